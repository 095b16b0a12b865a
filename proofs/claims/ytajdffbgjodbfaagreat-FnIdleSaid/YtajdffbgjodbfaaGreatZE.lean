/- Part 5 of the proof: the engine, codes, walks and plain laws, each named where it stands. -/
import Derived.Test.YtajdffbgjodbfaaGreatZD
import Derived.Shelf.Sort.Plain
import Derived.Shelf.Sort.So_math_bits_LenIn
open Nat (reduceEqDiff reduceAdd reduceLeDiff reduceLT)
set_option linter.unusedVariables false
set_option linter.unusedSimpArgs false
set_option maxRecDepth 4000
namespace Go.AE.Y
open Go.Proofs.Tryz
variable {H : Heap} {K : V → Heap → Prop}
theorem Qcb {n lo hi : Int} (hK : K (.c (.bool (decide (lo ≤ n) && decide (n ≤ hi)))) H) : Qp prog Qal [.c (.int .i64 n), .c (.int .i64 lo), .c (.int .i64 hi)] H K := by
 refine Qb Qat Qart ?_
 refine Qa ?_
 simp only [go_sem]
 refine Qa ?_
 simp only [go_sem]
 refine Qj ?_
 simp only [go_sem, Qz, Qac, Q6l, List.mem_singleton, forall_eq, RS.op]
 have : (bif decide (lo ≤ n) then decide (n ≤ hi) else false) = (decide (lo ≤ n) && decide (n ≤ hi)) := by cases decide (lo ≤ n) <;> rfl
 first | exact hK | (rw [this]; exact hK) | (simpa [this] using hK)
def IsIx (ns : List Int) (v r : Int) : Prop := (r = -1 ∧ v ∉ ns) ∨ ∃ i : Nat, r = i ∧ i < ns.length ∧ ns.getD i 0 = v ∧ v ∉ ns.take i
theorem IsIx.nonneg {ns : List Int} {v r : Int} (h : IsIx ns v r) : decide (0 ≤ r) = ns.contains v := by
 rcases h with ⟨rfl, hn⟩ | ⟨i, rfl, h1, h2, _⟩
 ·have : ns.contains v = false := by
   cases hc : ns.contains v with
   | false => rfl
   | true => exact absurd (List.contains_iff_mem.1 hc) hn
  rw [this]; rfl
 ·have : v ∈ ns := by
   rw [← h2, List.getD_eq_getElem?_getD, List.getElem?_eq_getElem h1]; exact List.getElem_mem h1
  rw [List.contains_iff_mem.2 this]; simp
theorem Qa1v {c : C} {ns : List Int} {v : Int} (hs : Slc H 1 (Qe ns) c) (how : c.isOw = false) (hK : ∀ r, IsIx ns v r → K (.c (.int .i64 r)) H) :
  Qp prog Qkq [.c c, .c (.int .i64 v)] H K := by
 refine Qb Qat Qazi ?_
 have hok := eq_true hs.ok
 have hlen := hs.len
 have hsz := hs.sz
 have hrw := hs.rows
 refine Qa ?_
 simp only [go_sem, how]
 refine Q4 ?_
 refine Qa ?_
 simp only [go_sem, how, hok, hlen, Qg]
 intro hl
 simp only [LIM] at hl
 refine Qh (Qc (Qu (fun m e1 H1 => ∃ (i : Nat), m = ns.length - i ∧ i ≤ ns.length ∧ H1 = H ∧ v ∉ ns.take i ∧ e1 = [(0, .c c), (1, .c (.int .i64 v)), (7, .c (.int .i64 ns.length)), (8, .c (.int .i64 i))]) ns.length ?_ ?_))
 ·exact ⟨0, by omega, by omega, rfl, by simp, rfl⟩
 ·rintro m e1 H1 ⟨i, hm, hi, rfl, hno, rfl⟩
  refine Qa ?_
  simp only [go_sem, how]
  refine Qh (Qd rfl ?_ ?_)
  ·intro hc
   have hlt : i < ns.length := by simpa using hc
   have hgd : ns.getD i 0 = ns[i] := by simp [List.getD_eq_getElem?_getD, hlt]
   refine Qf ?_
   simp only [go_sem]
   refine Qh (Qc ?_)
   refine Qa ?_
   simp only [go_sem, how]
   refine Qa ?_
   simp only [go_sem, how, hok, hlen, hsz, hrw, hlt, Qg, Q6 _ _ hlt]
   refine Qd rfl ?_ ?_
   ·intro hc2
    have hv : v = ns.getD i 0 := by simpa using hc2
    refine Qa ?_
    simp only [go_sem]
    refine Qj ?_
    simp only [go_sem, X.next, Qz, Qac, Qyx, List.mem_singleton, forall_eq, RS.op]
    exact hK _ (.inr ⟨i, rfl, hlt, hv.symm, hno⟩)
   ·intro hc2
    have hv : ¬ v = ns.getD i 0 := by simpa using hc2
    refine Qf ?_
    simp only [go_sem]
    refine Qq ?_
    simp only [go_sem, X.next]
    refine ⟨Qo (by omega) (by omega), ns.length - (i + 1), by omega, i + 1, rfl, by omega, ?_, rfl⟩
    rw [List.take_succ_eq_append_getElem hlt]
    simp only [List.mem_append, List.mem_singleton, not_or]
    exact ⟨hno, fun h => hv (by rw [hgd]; exact h)⟩
  ·intro hc
   have hge : ns.length ≤ i := by simpa using hc
   rw [List.take_of_length_le hge] at hno
   refine Qt ?_
   simp only [go_sem, X.next]
   refine Qa ?_
   simp only [go_sem]
   refine Qj ?_
   simp only [go_sem, Qz, Qac, Qyx, List.mem_singleton, forall_eq, RS.op]
   exact hK _ (.inl ⟨rfl, hno⟩)
theorem Qayj {c : C} {ns : List Int} {v : Int} (hs : Slc H 1 (Qe ns) c) (how : c.isOw = false) (hK : K (.c (.bool (ns.contains v))) H) :
  Qp prog Qh6 [.c c, .c (.int .i64 v)] H K := by
 refine Qb Qat Qajs ?_
 refine Qa ?_
 simp only [go_sem, how]
 refine Qa ?_
 simp only [go_sem, how]
 refine Qa1v hs how fun r hr => ?_
 simp only [go_sem, Qm0]
 refine Qj ?_
 simp only [go_sem, Qz, Qac, Qwn, List.mem_singleton, forall_eq, RS.op]
 rw [hr.nonneg]; exact hK
theorem Qaq2 {c : C} {ns : List Int} {f : Nat} {caps : List C} {p : Int → Bool} (hs : Slc H 1 (Qe ns) c) (how : c.isOw = false)
  (hf : ∀ (x : Int) (K' : V → Heap → Prop), x ∈ ns → K' (.c (.bool (p x))) H → Qp prog f ([.c (.int .i64 x)] ++ caps.map .c) H K')
  (hK : ∀ r : Int, decide (0 ≤ r) = ns.any p → K (.c (.int .i64 r)) H) :
  Qp prog Qf8 [.c c, .c (.fn f caps)] H K := by
 refine Qb Qat Qade ?_
 have hok := eq_true hs.ok
 have hlen := hs.len
 have hsz := hs.sz
 have hrw := hs.rows
 refine Qa ?_
 simp only [go_sem, how]
 refine Q4 ?_
 refine Qa ?_
 simp only [go_sem, how, hok, hlen, Qg]
 intro hl
 simp only [LIM] at hl
 refine Qh (Qc (Qu (fun m e1 H1 => ∃ (i : Nat), m = ns.length - i ∧ i ≤ ns.length ∧ H1 = H ∧ (∀ x ∈ ns.take i, p x = false) ∧ e1 = [(0, .c c), (1, .c (.fn f caps)), (7, .c (.int .i64 ns.length)), (8, .c (.int .i64 i))]) ns.length ?_ ?_))
 ·exact ⟨0, by omega, by omega, rfl, by simp, rfl⟩
 ·rintro m e1 H1 ⟨i, hm, hi, rfl, hno, rfl⟩
  refine Qa ?_
  simp only [go_sem, how]
  refine Qh (Qd rfl ?_ ?_)
  ·intro hc
   have hlt : i < ns.length := by simpa using hc
   have hgd : ns.getD i 0 = ns[i] := by simp [List.getD_eq_getElem?_getD, hlt]
   refine Qf ?_
   simp only [go_sem]
   refine Qh (Qc ?_)
   refine Qa ?_
   simp only [go_sem, how]
   refine Qa ?_
   simp only [go_sem, how, hok, hlen, hsz, hrw, hlt, Qg, Q6 _ _ hlt]
   refine hf _ _ (by rw [hgd]; exact List.getElem_mem hlt) ?_
   refine Qd rfl ?_ ?_
   ·intro hc2
    refine Qa ?_
    simp only [go_sem]
    refine Qj ?_
    simp only [go_sem, X.next, Qz, Qac, Qid, List.mem_singleton, forall_eq, RS.op]
    refine hK _ ?_
    have : ns.any p = true := List.any_eq_true.2 ⟨ns[i], List.getElem_mem hlt, by rw [← hgd]; exact hc2⟩
    rw [this]; simp
   ·intro hc2
    refine Qf ?_
    simp only [go_sem]
    refine Qq ?_
    simp only [go_sem, X.next]
    refine ⟨Qo (by omega) (by omega), ns.length - (i + 1), by omega, i + 1, rfl, by omega, ?_, rfl⟩
    rw [List.take_succ_eq_append_getElem hlt]
    intro x hx
    rcases List.mem_append.1 hx with hx | hx
    ·exact hno x hx
    ·simp only [List.mem_singleton] at hx; subst hx; rw [← hgd]; exact hc2
  ·intro hc
   have hge : ns.length ≤ i := by simpa using hc
   rw [List.take_of_length_le hge] at hno
   refine Qt ?_
   simp only [go_sem, X.next]
   refine Qa ?_
   simp only [go_sem]
   refine Qj ?_
   simp only [go_sem, Qz, Qac, Qid, List.mem_singleton, forall_eq, RS.op]
   refine hK _ ?_
   have : ns.any p = false := by
    cases hc : ns.any p with
    | false => rfl
    | true => obtain ⟨x, hx, hp⟩ := List.any_eq_true.1 hc; rw [hno x hx] at hp; exact absurd hp (by simp)
   rw [this]; rfl
theorem Qh0 {c : C} {ns : List Int} {f : Nat} {caps : List C} {p : Int → Bool} (hs : Slc H 1 (Qe ns) c) (how : c.isOw = false)
  (hf : ∀ (x : Int) (K' : V → Heap → Prop), x ∈ ns → K' (.c (.bool (p x))) H → Qp prog f ([.c (.int .i64 x)] ++ caps.map .c) H K')
  (hK : K (.c (.bool (ns.any p))) H) : Qp prog Qbm [.c c, .c (.fn f caps)] H K := by
 refine Qb Qat Qyq ?_
 refine Qa ?_
 simp only [go_sem, how]
 refine Qa ?_
 simp only [go_sem, how]
 refine Qaq2 hs how hf fun r hr => ?_
 simp only [go_sem, Qfb]
 refine Qj ?_
 simp only [go_sem, Qz, Qac, Qjb, List.mem_singleton, forall_eq, RS.op]
 rw [hr]; exact hK
end Go.AE.Y

namespace Go.AE.Y
open Go.Proofs.Tryz
variable {H : Heap} {K : V → Heap → Prop}
theorem Qa2k {op : Int} (hK : K (.c (.bool (decide (1 ≤ op) && decide (op ≤ 14)))) H) : Qp prog Qkh [.c (.int .i64 op)] H K := by
 refine Qb Qat Qazc ?_
 refine Qa ?_
 simp only [go_sem]
 refine Qa ?_
 simp only [go_sem]
 refine Qcb ?_
 simp only [go_sem, Qw5]
 refine Qj ?_
 simp only [go_sem, Qz, Qac, Qah3, List.mem_singleton, forall_eq, RS.op]
 exact hK
theorem Qa6g {n : Int} (hK : K (.c (.bool (decide (0 ≤ n) && decide (n ≤ 255)))) H) : Qp prog Qoa [.c (.int .i64 n)] H K := by
 refine Qb Qat Qarq ?_
 refine Qa ?_
 simp only [go_sem]
 refine Qa ?_
 simp only [go_sem]
 refine Qcb ?_
 simp only [go_sem, Qtm]
 refine Qj ?_
 simp only [go_sem, Qz, Qac, Q6i, List.mem_singleton, forall_eq, RS.op]
 exact hK
theorem Qayc {op : Int} (hK : K (.c (.bool (Qde op))) H) : Qp prog Qiu [.c (.int .i64 op)] H K := by
 refine Qb Qat Qa27 ?_
 refine Qa ?_
 simp only [go_sem]
 refine Qa ?_
 simp only [go_sem]
 refine Qa2k ?_
 simp only [go_sem, Q0x]
 refine Qj ?_
 simp only [go_sem, Qz, Qac, Qani, List.mem_singleton, forall_eq, RS.op]
 have : ∀ a b c : Bool, (bif bif a then b else false then c else false) = (a && b && c) := by decide
 rw [this]
 have e : (decide (1 ≤ op) && decide (op ≤ 14)) = decide (1 ≤ op ∧ op ≤ 14) := by simp
 rw [e]; exact hK
theorem Q46 {j : Int} (hK : K (.c (.bool (decide (j = 2) || decide (j = 3)))) H) : Qp prog Qey [.c (.int .i64 j)] H K := by
 refine Qb Qat Qars ?_
 refine Qa ?_
 simp only [go_sem]
 refine Qa ?_
 simp only [go_sem]
 refine Qj ?_
 simp only [go_sem, Qz, Qac, Q6k, List.mem_singleton, forall_eq, RS.op]
 have : ∀ a b : Bool, (bif a then true else b) = (a || b) := by decide
 first | (rw [this]; exact hK) | exact hK
theorem Qar7 {j : Int} (hK : K (.c (.int .i64 (Qm5 j))) H) : Qp prog Qf6 [.c (.int .i64 j)] H K := by
 refine Qb Qat Qadd ?_
 have retf : ∀ (n : Int) (e : Env), Qm5 j = n → lk 2 e = .c (.int .i64 n) → Qz Qic K .ret e H := by
  intro b e h1 h3
  simp only [go_sem, Qz, Qac, Qic, List.mem_singleton, forall_eq, RS.op, h3]
  rw [← h1]; exact hK
 refine Qa ?_
 simp only [go_sem]
 refine Q4 ?_
 refine Qa ?_
 simp only [go_sem]
 refine Qh (Qc ?_)
 refine Qa ?_
 simp only [go_sem]
 refine Qd rfl ?_ ?_
 ·intro hc
  refine Qa ?_
  simp only [go_sem]
  refine Qj ?_
  simp only [go_sem]
  exact retf 1 _ (by simp at hc; simp [Qm5, hc]) (by simp [lk])
 intro hc1
 refine Qa ?_
 simp only [go_sem]
 refine Qd rfl ?_ ?_
 ·intro hc
  refine Qa ?_
  simp only [go_sem]
  refine Qj ?_
  simp only [go_sem]
  exact retf 2 _ (by simp at hc; simp [Qm5, hc]) (by simp [lk])
 intro hc2
 refine Qa ?_
 simp only [go_sem]
 refine Qd rfl ?_ ?_
 ·intro hc
  refine Qa ?_
  simp only [go_sem]
  refine Qj ?_
  simp only [go_sem]
  exact retf 0 _ (by simp at hc; simp [Qm5, hc]) (by simp [lk])
 ·intro hc
  refine Qf ?_
  simp only [go_sem]
  refine Qa ?_
  simp only [go_sem]
  refine Qj ?_
  exact retf (-1) _ (by simp at hc hc1 hc2; simp [Qm5, hc, hc1, hc2]) (by simp [lk])
def Qamh (op : Int) : Int := if op = 1 then 0 else if op = 2 ∨ op = 10 ∨ op = 11 ∨ op = 13 then 1 else 2
theorem Qa2j {op : Int} (hK : K (.c (.int .i64 (Qamh op))) H) : Qp prog Qkg [.c (.int .i64 op)] H K := by
 refine Qb Qat Qam0 ?_
 have retf : ∀ (n : Int) (e : Env), Qamh op = n → lk 2 e = .c (.int .i64 n) → Qz Qhk K .ret e H := by
  intro b e h1 h3
  simp only [go_sem, Qz, Qac, Qhk, List.mem_singleton, forall_eq, RS.op, h3]
  rw [← h1]; exact hK
 refine Qa ?_
 simp only [go_sem]
 refine Q4 ?_
 refine Qa ?_
 simp only [go_sem]
 refine Qh (Qc ?_)
 refine Qa ?_
 simp only [go_sem]
 refine Qd rfl ?_ ?_
 ·intro hc
  refine Qa ?_
  simp only [go_sem]
  refine Qj ?_
  simp only [go_sem]
  exact retf 0 _ (by simp at hc; simp [Qamh, hc]) (by simp [lk])
 intro hc1
 have fin : ∀ (b : Bool) (e : Env), b = decide (op = 2 ∨ op = 10 ∨ op = 11 ∨ op = 13) → lk 6 e = .c (.bool b) → Qah prog Qtk (X.inBlock 0 (X.sq prog Qtl (Qz Qhk K))) e H := by
  intro b e hb l6
  refine Qd l6 ?_ ?_
  ·intro hc
   refine Qa ?_
   simp only [go_sem]
   refine Qj ?_
   simp only [go_sem]
   exact retf 1 _ (by rw [hc] at hb; have := of_decide_eq_true hb.symm; simp at hc1; rw [Qamh, if_neg hc1, if_pos this]) (by simp [lk])
  ·intro hc
   refine Qf ?_
   simp only [go_sem]
   refine Qa ?_
   simp only [go_sem]
   refine Qj ?_
   exact retf 2 _ (by rw [hc] at hb; have := of_decide_eq_false hb.symm; simp at hc1; rw [Qamh, if_neg hc1, if_neg this]) (by simp [lk])
 refine Q4 ?_
 refine Qa ?_
 simp only [go_sem]
 refine Qh (Qd rfl ?_ ?_)
 ·intro hc
  refine Qf ?_
  simp only [go_sem]
  exact fin true _ (decide_eq_true (.inl (of_decide_eq_true hc))).symm (by simp [lk]; exact of_decide_eq_true hc)
 intro hc2
 refine Qa ?_
 simp only [go_sem]
 refine Qd rfl ?_ ?_
 ·intro hc
  refine Qf ?_
  simp only [go_sem]
  exact fin true _ (decide_eq_true (.inr (.inl (of_decide_eq_true hc)))).symm (by simp [lk]; exact of_decide_eq_true hc)
 intro hc3
 refine Qa ?_
 simp only [go_sem]
 refine Qd rfl ?_ ?_
 ·intro hc
  refine Qf ?_
  simp only [go_sem]
  exact fin true _ (decide_eq_true (.inr (.inr (.inl (of_decide_eq_true hc))))).symm (by simp [lk]; exact of_decide_eq_true hc)
 intro hc4
 refine Qq ?_
 simp only [go_sem]
 refine fin (decide (op = 13)) _ ?_ (by simp [lk])
 have a2 := of_decide_eq_false hc2
 have a3 := of_decide_eq_false hc3
 have a4 := of_decide_eq_false hc4
 simp [a2, a3, a4]
end Go.AE.Y

namespace Go.AE.Y
open Go.Proofs.Tryz
variable {H : Heap} {K : V → Heap → Prop}
theorem Qaqu {l : List BlkD} (hf : ∀ b ∈ l, b.ins.length ≤ 2 ^ 38 ∧ b.phis.length ≤ 2 ^ 38) : Qfr Quj l ≤ l.length * 549755813888 := by
 induction l with
 | nil => simp [Qfr]
 | cons y l ih =>
  have h1 := hf y List.mem_cons_self
  have h2 := ih fun b hb => hf b (List.mem_cons_of_mem _ hb)
  simp only [Qfr, List.map_cons, List.sum_cons, Quj, List.length_cons] at *
  omega
set_option maxHeartbeats 1000000 in
theorem Qke {q : CodeD} {fl : Bool} (hf : q.fits) (hb : q.blocks.length ≤ 160) (hK : ∀ H', Upd H H' [] → K (.c (.int .i64 (Qe3 q))) H') :
  Qp prog Qbu [.ag [.int .i64 q.params, .int .i64 q.regs, .sl fl 5 (Ql q.blocks)]] H K := by
 refine Q0 ?_
 refine Qb Qat Qac6 ?_
 have hsb := Qaqu hf
 refine Qa ?_
 simp only [go_sem]
 refine Qa ?_
 simp only [go_sem]
 refine Q4 ?_
 refine Qa ?_
 simp only [go_sem, Qn]
 intro _
 refine Qh (Qc (Qu (fun m e1 H1 => ∃ (i : Nat), m = q.blocks.length - i ∧ i ≤ q.blocks.length ∧ Kn H H1 [] [] ∧
  e1 = [(3, .c (.int .i64 (Qfr Quj (q.blocks.take i) : Nat))), (7, .c (.sl fl 5 (Ql q.blocks))), (8, .c (.int .i64 q.blocks.length)), (9, .c (.int .i64 i))]) q.blocks.length ?_ ?_))
 ·exact ⟨0, by omega, by omega, Kn.start0 H, rfl⟩
 ·rintro m e1 H1 ⟨i, hm, hi, kn, rfl⟩
  refine Qa ?_
  simp only [go_sem]
  refine Qh (Qd rfl ?_ ?_)
  ·intro hc
   have hlt : i < q.blocks.length := by simpa using hc
   have hbf := hf _ (List.getElem_mem hlt)
   have hss := Qbh (f := Quj) hlt
   have hle := Qr2 (f := Quj) (l := q.blocks) (i + 1)
   have hcy : Quj q.blocks[i] = q.blocks[i].ins.length + q.blocks[i].phis.length := rfl
   have hmul : q.blocks.length * 549755813888 ≤ 160 * 549755813888 := Nat.mul_le_mul_right _ hb
   refine Qf ?_
   simp only [go_sem]
   refine Qh (Qc ?_)
   refine Qa ?_
   simp only [go_sem, hlt, Qn, Q5 _ _ hlt, BlkD.cells]
   intro x5 hx5 H2 h2
   have kn := kn.al hx5 h2
   have hx5 := kn.l 0 rfl
   simp only [go_sem, Qji, hx5]
   intro H3 h3
   have kn : Kn H H3 [] ([] ++ [(x5, .st [.sl false 2 (Q1 q.blocks[i].phis), .sl false 4 (Qaj q.blocks[i].ins), .int .i64 q.blocks[i].jump, .int .i64 q.blocks[i].on, .sl false 1 (Qe q.blocks[i].next)])]) := kn.stL 0 rfl h3
   have hx5 := kn.l 0 rfl
   refine Qq ?_
   simp only [go_sem, hx5, Qab, Qy]
   intro _ _
   refine ⟨Qo (by omega) (by omega), Qo (by omega) (by omega), ?_⟩
   refine Qq ?_
   simp only [go_sem, X.next]
   refine ⟨Qo (by omega) (by omega), q.blocks.length - (i + 1), by omega, i + 1, rfl, by omega, kn.drop, ?_⟩
   rw [hss, hcy]
   have : ((Qfr Quj (q.blocks.take i) : Nat) : Int) + ((q.blocks[i].phis.length : Int) + q.blocks[i].ins.length) = ((Qfr Quj (q.blocks.take i) + (q.blocks[i].ins.length + q.blocks[i].phis.length) : Nat) : Int) := by omega
   rw [this]; rfl
  ·intro hc
   have hge : q.blocks.length ≤ i := by simpa using hc
   refine Qt ?_
   simp only [go_sem, X.next]
   refine Qa ?_
   simp only [go_sem]
   refine Qj ?_
   simp only [go_sem, Qz, Qac, Qs3, List.mem_singleton, forall_eq, RS.op]
   rw [List.take_of_length_le hge]
   exact ⟨_, .c _ _ (Qi rfl), hK _ kn.fin⟩
end Go.AE.Y

namespace Go.AE.Y
open Go.Proofs.Tryz
variable {H : Heap} {K : V → Heap → Prop}
theorem Qahr {x7 : Nat} {q : CodeD} {v : Int} (h7 : H x7 = .st q.cells) (hr : -(2^62) ≤ q.regs) (hr2 : q.regs ≤ 2^62) (hK : K (.c (.bool (decide (0 ≤ v ∧ v ≤ q.regs - 1)))) H) :
  Qp prog Qcy [.c (.int .i64 v), .c (.ptr x7 0)] H K := by
 refine Qb Qat Qajk ?_
 refine Qa ?_
 simp only [go_sem]
 refine Qa ?_
 simp only [go_sem, h7, CodeD.cells]
 refine ⟨Qo (by omega) (by omega), ?_⟩
 refine Qcb ?_
 simp only [go_sem, Qlz]
 refine Qj ?_
 simp only [go_sem, Qz, Qac, Qwe, List.mem_singleton, forall_eq, RS.op]
 have e : (decide (0 ≤ v) && decide (v ≤ q.regs - 1)) = decide (0 ≤ v ∧ v ≤ q.regs - 1) := by simp
 rw [e]; exact hK
theorem Qay4 {x7 x8 : Nat} {q : CodeD} {v : Int} (h7 : H x7 = .st q.cells) (h8 : H x8 = .st [.fn Qcy [.ptr x7 0]]) (hr : -(2^62) ≤ q.regs) (hr2 : q.regs ≤ 2^62) (hK : K (.c (.bool (!decide (0 ≤ v ∧ v ≤ q.regs - 1)))) H) :
  Qp prog Qh3 [.c (.int .i64 v), .c (.ptr x8 0)] H K := by
 refine Qb Qat Qajl ?_
 refine Qa ?_
 simp only [go_sem]
 refine Qa ?_
 simp only [go_sem, h8, List.cons_append, List.nil_append, List.map_cons, List.map_nil]
 refine Qahr h7 hr hr2 ?_
 simp only [go_sem, Ql0]
 refine Qj ?_
 simp only [go_sem, Qz, Qac, Qwf, List.mem_singleton, forall_eq, RS.op]
 exact hK
theorem Qaq4 (p : Int → Bool) (l : List Int) : (l.any fun x => !p x) = !l.all p := by
 induction l with
 | nil => rfl
 | cons x l ih => simp only [List.any_cons, List.all_cons, ih]; cases p x <;> simp
set_option maxHeartbeats 1000000 in
theorem Qa95 {cs : List CodeD} {fl : Bool} {k : Nat} {x : InsD} (hk : k < cs.length) (hr : 0 ≤ cs[k].regs) (hr2 : cs[k].regs ≤ 300) (hcl : cs.length ≤ 100) (hK : ∀ (H' : Heap), Upd H H' [] → K (.c (.bool (insG cs k x))) H') :
  Qp prog Quo [.ag [.sl fl 3 (Qm cs)], .c (.int .i64 k), .ag x.cells] H K := by
 refine Q0 ?_
 refine Qb Qat Qazb ?_
 refine Qa ?_
 simp only [go_sem, InsD.cells]
 refine Qa ?_
 simp only [go_sem, hk, Qs, Q7 _ _ hk, CodeD.cells]
 intro x7 hx7 H1 h1
 have kn := (Kn.start0 H).al hx7 h1
 have hx7 := kn.l 0 rfl
 simp only [go_sem, Qw2, hx7]
 intro H2 h2
 have kn := kn.stL 0 rfl h2
 refine Qa ?_
 simp only [go_sem]
 intro x8 hx8 H3 h3
 have kn := kn.al hx8 h3
 have hx8 := kn.l 1 rfl
 simp only [go_sem, Qw3, hx8]
 intro H4 h4
 have kn : Kn H H4 [] [(x7, .st cs[k].cells), (x8, .st [.fn Qcy [.ptr x7 0]])] := kn.stL 1 rfl h4
 have h7 : H4 x7 = .st cs[k].cells := kn.l 0 rfl
 have h8 := kn.l 1 rfl
 have hrg := Qasf hk
 have retf : ∀ (b : Bool) (e : Env), insG cs k x = b → lk 6 e = .c (.bool b) → Qz Qi8 (fun x H' => ∃ x', FrzV H' (un H) x x' ∧ K x' (H'.frz (un H))) .ret e H4 := by
  intro b e h1 h3
  simp only [go_sem, Qz, Qac, Qi8, List.mem_singleton, forall_eq, RS.op, h3]
  rw [← h1]; exact ⟨_, .c _ _ (Qi rfl), hK _ kn.fin⟩
 refine Q4 ?_
 refine Qa ?_
 simp only [go_sem]
 refine Qa2k ?_
 simp only [go_sem, Qw4]
 have rest2 : ∀ (E1 : Env) (b : Bool), insH cs[k].regs x = true → insT cs[k].regs x = (!b) → lk 1 E1 = .c (.int .i64 k) → lk 3 E1 = .c (.pp [.sl fl 3 (Qm cs)]) → lk 5 E1 = .c (.pp [.int .i64 x.op, .int .i64 x.to, .sl false 1 (Qe x.args), .int .i64 x.n]) → lk 45 E1 = .c (.bool b) →
   Qah prog (s_im_insOk_8.seq Qw0) (Qz Qi8 (fun x H' => ∃ x', FrzV H' (un H) x x' ∧ K x' (H'.frz (un H)))) E1 H4 := by
  intro E1 b hb1 hb2 l1 l3 l5 l45
  refine Qh (Qd l45 ?_ ?_)
  ·intro hc
   refine Qa ?_
   simp only [go_sem]
   refine Qj ?_
   simp only [go_sem]
   exact retf false _ (by rw [insG, hrg, hb2, hc]; simp) (by simp [lk])
  intro hc
  rw [hc] at hb2
  have hG : insG cs k x = insL cs k x := by rw [insG, hrg, hb1, hb2]; rfl
  have hop14 : 1 ≤ x.op ∧ x.op ≤ 14 := by
   simp only [insH, Bool.and_eq_true, decide_eq_true_eq] at hb1
   exact hb1.1
  refine Qf ?_
  simp only [go_sem]
  refine Q4 ?_
  refine Qa ?_
  simp only [go_sem, l1, l3, l5]
  refine Qh (Qc ?_)
  refine Qa ?_
  simp only [go_sem]
  refine Qd rfl ?_ ?_
  ·intro hc
   have hop : x.op = 1 := of_decide_eq_true hc
   have hL : insL cs k x = (decide ((x.args.length : Int) = 0) && (decide (0 ≤ x.n) && decide (x.n ≤ 255))) := by
    rw [insL, if_neg (by omega)]
    simp [Qui, hop]
   refine Qa ?_
   simp only [go_sem, Qg]
   intro _
   refine ⟨fun hb => ?_, fun hb => ?_⟩
   ·refine Qa6g ?_
    simp only [go_sem, Qk1]
    refine Qj ?_
    simp only [go_sem]
    refine retf _ _ ?_ (by simp [lk]; rfl)
    have hb' : x.args = [] := List.length_eq_zero_iff.1 (by have := of_decide_eq_true hb; omega)
    rw [hG, hL]; simp [hb']
   ·simp only [go_sem, Qk1, hb]
    refine Qj ?_
    simp only [go_sem]
    exact retf false _ (by rw [hG, hL, hb]; rfl) (by simp [lk])
  intro hc1
  have hop1 : ¬ x.op = 1 := of_decide_eq_false hc1
  refine Qa ?_
  simp only [go_sem]
  refine Qd rfl ?_ ?_
  ·intro hc
   have hop : x.op = 14 := of_decide_eq_true hc
   rw [insL, if_pos hop] at hG
   refine Qan ?_
   simp only [go_sem]
   refine ⟨Qo (by omega) (by omega), ?_⟩
   refine Qcb ?_
   by_cases hin : 0 ≤ x.n ∧ x.n ≤ (k : Int) - 1
   ·obtain ⟨m, hm⟩ := Int.eq_ofNat_of_zero_le hin.1
    have hmk : m < cs.length := by omega
    have h1 : (0 ≤ (m : Int)) = True := eq_true (by omega)
    have h2 : ((m : Int) ≤ (k : Int) - 1) = True := eq_true (by omega)
    simp only [go_sem, Qeu, hm, h1, h2, hmk, decide_true, Bool.and_self, Qs, Q7 _ _ hmk, CodeD.cells, Qg]
    refine Qj ?_
    simp only [go_sem]
    refine retf _ _ ?_ (by simp [lk]; rfl)
    rw [hG, hm, Int.toNat_natCast, Qar9 hmk]
    simp only [h1, h2, and_self, decide_true, Bool.true_and]
   ·have hin' : (decide (0 ≤ x.n) && decide (x.n ≤ (k : Int) - 1)) = false := by simpa using hin
    have hin2 : decide (0 ≤ x.n ∧ x.n ≤ (k : Int) - 1) = false := by simpa using hin
    by_cases hm : x.n.toNat < cs.length
    ·simp only [go_sem, Qeu, hin', Q7 _ _ hm, CodeD.cells]
     refine Qj ?_
     simp only [go_sem]
     exact retf false _ (by rw [hG, hin2]; rfl) (by simp [lk])
    ·have hgd : (Qm cs).getD x.n.toNat [] = [] := by
      rw [List.getD_eq_getElem?_getD, List.getElem?_eq_none (by rw [Qs]; omega)]; rfl
     simp only [go_sem, Qeu, hin', hgd, List.take_nil, List.headD_nil]
     refine Qj ?_
     simp only [go_sem]
     exact retf false _ (by rw [hG, hin2]; rfl) (by simp [lk])
  ·intro hc
   have hop : ¬ x.op = 14 := of_decide_eq_false hc
   have hA : Qui x.op = Qamh x.op := by
    rw [Qui, Qamh, if_neg hop1, if_neg hop1]
    split
    ·rfl
    ·rw [if_pos (by omega)]
   have hL : insL cs k x = (decide (x.n = 0) && decide ((x.args.length : Int) = Qamh x.op)) := by
    rw [insL, if_neg hop, hA]
    by_cases hn : x.n = 0
    ·simp [hn]
    ·simp [hn, hop1]
   refine Qf ?_
   simp only [go_sem]
   refine Qan ?_
   simp only [go_sem, Qg]
   refine ⟨fun hb => ?_, fun hb => ?_⟩
   ·refine Qa2j ?_
    simp only [go_sem, Qij, hb, Qg]
    refine Qj ?_
    refine retf _ _ ?_ (by simp [lk]; rfl)
    have hb' := of_decide_eq_true hb
    rw [hG, hL]; simp [hb']
   ·simp only [go_sem, Qij, hb, Qg]
    refine Qj ?_
    exact retf false _ (by rw [hG, hL, hb]; rfl) (by simp [lk])
 have rest : ∀ (E1 : Env) (b : Bool), insH cs[k].regs x = (!b) → lk 1 E1 = .c (.int .i64 k) → lk 3 E1 = .c (.pp [.sl fl 3 (Qm cs)]) → lk 5 E1 = .c (.pp [.int .i64 x.op, .int .i64 x.to, .sl false 1 (Qe x.args), .int .i64 x.n]) → lk 8 E1 = .c (.ptr x8 0) → lk 24 E1 = .c (.bool b) →
   Qah prog (s_im_insOk_4.seq Qw1) (Qz Qi8 (fun x H' => ∃ x', FrzV H' (un H) x x' ∧ K x' (H'.frz (un H)))) E1 H4 := by
  intro E1 b hb l1 l3 l5 l8 l24
  refine Qh (Qd l24 ?_ ?_)
  ·intro hc
   refine Qa ?_
   simp only [go_sem]
   refine Qj ?_
   simp only [go_sem]
   exact retf false _ (by rw [insG, hrg, hb, hc]; rfl) (by simp [lk])
  intro hc
  rw [hc] at hb
  refine Qf ?_
  simp only [go_sem]
  refine Q4 ?_
  refine Qa ?_
  simp only [go_sem, l1, l3, l5, l8]
  refine Qayc ?_
  cases hmk : Qde x.op with
  | true =>
   simp only [go_sem, cond_true, cond_false, Bool.not_true, Bool.not_false, Qk0, l1, l3, l5, l8, h8]
   refine Qahr h7 (by omega) (by omega) ?_
   have hT : insT cs[k].regs x = decide (0 ≤ x.to ∧ x.to ≤ cs[k].regs - 1) := by rw [insT, hmk]; rfl
   cases hd : decide (0 ≤ x.to ∧ x.to ≤ cs[k].regs - 1) with
   | true =>
    simp only [go_sem, cond_true, cond_false, Bool.not_true, Bool.not_false, Qfl, l1, l3, l5, l8, h8]
    refine Qayc ?_
    simp only [go_sem, cond_true, cond_false, Bool.not_true, Bool.not_false, Qfk, l1, l3, l5, l8, hmk]
    exact rest2 _ false hb (by rw [hT, hd]; rfl) (by simp [lk]) (by simp [lk]) (by simp [lk]) (by simp [lk])
   | false =>
    simp only [go_sem, cond_true, cond_false, Bool.not_true, Bool.not_false, Qfl, Qfk, l1, l3, l5, l8, h8]
    exact rest2 _ true hb (by rw [hT, hd]; rfl) (by simp [lk]) (by simp [lk]) (by simp [lk]) (by simp [lk])
  | false =>
   have hT : insT cs[k].regs x = decide (x.to = -1) := by rw [insT, hmk]; rfl
   simp only [go_sem, cond_true, cond_false, Bool.not_true, Bool.not_false, Qk0, Qfl, l1, l3, l5, l8, h8]
   refine Qayc ?_
   simp only [go_sem, cond_true, cond_false, Bool.not_true, Bool.not_false, Qfk, l1, l3, l5, l8, hmk]
   refine rest2 _ (!decide (x.to = -1)) hb ?_ ?_ ?_ ?_ ?_
   ·rw [hT]; simp
   ·rfl
   ·rfl
   ·rfl
   ·rfl
 cases hi : (decide (1 ≤ x.op) && decide (x.op ≤ 14)) with
 | false =>
  simp only [go_sem, Qkz]
  refine rest _ true ?_ (by simp [lk]) (by simp [lk]) (by simp [lk]) (by simp [lk]) (by simp [lk])
  have : decide (1 ≤ x.op ∧ x.op ≤ 14) = false := by simpa using hi
  rw [insH, this]; rfl
 | true =>
  simp only [go_sem, h8]
  refine Qh0 (p := fun r => !decide (0 ≤ r ∧ r ≤ cs[k].regs - 1)) (.mk' _ _ _ _) rfl (fun v K' hv hK' => Qay4 h7 h8 (by omega) (by omega) hK') ?_
  simp only [go_sem, Qkz]
  refine rest _ (x.args.any fun r => !decide (0 ≤ r ∧ r ≤ cs[k].regs - 1)) ?_ (by simp [lk]) (by simp [lk]) (by simp [lk]) (by simp [lk]) (by simp [lk])
  have : decide (1 ≤ x.op ∧ x.op ≤ 14) = true := by simpa using hi
  rw [insH, this, Qaq4, Qox]; simp
end Go.AE.Y

namespace Go.AE.Y
attribute [local instance] Classical.propDecidable
inductive Rch (g : Nat → List Nat) (A : Nat → Prop) : Nat → Nat → Prop
 | refl {x : Nat} : ¬ A x → Rch g A x x
 | step {x y z : Nat} : Rch g A x y → z ∈ g y → ¬ A z → Rch g A x z
variable {g : Nat → List Nat} {A B : Nat → Prop} {x y z : Nat}
theorem Rch.mono (h : Rch g A x y) (hAB : ∀ z, B z → A z) : Rch g B x y := by
 induction h with
 | refl h => exact .refl fun hb => h (hAB _ hb)
 | step h1 h2 h3 ih => exact ih.step h2 fun hb => h3 (hAB _ hb)
theorem Rch.fst (h : Rch g A x y) : ¬ A x := by
 induction h with
 | refl h => exact h
 | step _ _ _ ih => exact ih
theorem Rch.snd (h : Rch g A x y) : ¬ A y := by
 cases h with
 | refl h => exact h
 | step _ _ h => exact h
theorem Rch.trans (h : Rch g A x y) (k : Rch g A y z) : Rch g A x z := by
 induction k with
 | refl _ => exact h
 | step _ h2 h3 ih => exact ih.step h2 h3
theorem Rch.head (hx : ¬ A x) (hy : y ∈ g x) (h : Rch g A y z) : Rch g A x z := (Rch.step (.refl hx) hy h.fst).trans h
theorem Rch.lt {n : Nat} (hg : ∀ x, x < n → ∀ y ∈ g x, y < n) (h : Rch g A x y) (hx : x < n) : y < n := by
 induction h with
 | refl _ => exact hx
 | step _ h2 _ ih => exact hg _ ih _ h2
variable {xs : List Nat} {S S' S1 : List Bool} {o o' o1 : List Nat}
theorem Dfs.adds (h : Dfs g xs S o S' o') : (∀ x, x < S.length → ∀ y ∈ g x, y < S.length) → (∀ x ∈ xs, x < S.length) →
  ∃ t, o' = o ++ t ∧ (∀ x, S'.getD x false = true ↔ S.getD x false = true ∨ x ∈ t) ∧ (∀ x ∈ t, ∀ y ∈ g x, S'.getD y false = true) ∧
   (∀ x ∈ xs, S'.getD x false = true) ∧ (∀ y ∈ t, ∃ x ∈ xs, Rch g (fun z => S.getD z false = true) x y) := by
 induction h with
 | nil S o => exact fun _ _ => ⟨[], by simp, by simp, by simp, by simp, by simp⟩
 | @skip x xs S S' o o' h1 h2 ih =>
  intro hg hx
  obtain ⟨t, e, a1, a2, a3, a4⟩ := ih hg fun y hy => hx y (List.mem_cons_of_mem _ hy)
  refine ⟨t, e, a1, a2, fun y hy => ?_, fun y hy => ?_⟩
  ·rcases List.mem_cons.1 hy with rfl | hy
   ·exact h2.mono _ h1
   ·exact a3 y hy
  ·obtain ⟨z, hz, hr⟩ := a4 y hy
   exact ⟨z, List.mem_cons_of_mem _ hz, hr⟩
 | @go x xs S S1 S' o o1 o' h1 h2 h3 ih1 ih2 =>
  intro hg hxs
  have hx := hxs x List.mem_cons_self
  have hl := h2.len
  rw [List.length_set] at hl
  obtain ⟨t1, e1, a1, a2, a3, a4⟩ := ih1 (by simpa using hg) (by simpa using hg x hx)
  obtain ⟨t2, e2, b1, b2, b3, b4⟩ := ih2 (by rw [hl]; exact hg) (by rw [hl]; exact fun y hy => hxs y (List.mem_cons_of_mem _ hy))
  have hset : ∀ y, (S.set x true).getD y false = true ↔ y = x ∨ S.getD y false = true := by
   intro y
   rw [Q4x]
   by_cases hyx : y = x
   ·simp [hyx, hx]
   ·simp [hyx]
  have hmono : ∀ y, S.getD y false = true → S1.getD y false = true := fun y hy => (a1 y).2 (.inl ((hset y).2 (.inr hy)))
  have hxS1 : S1.getD x false = true := (a1 x).2 (.inl ((hset x).2 (.inl rfl)))
  refine ⟨t1 ++ [x] ++ t2, by rw [e2, e1]; simp, fun y => ?_, fun y hy z hz => ?_, fun y hy => ?_, fun y hy => ?_⟩
  ·rw [b1, a1, hset]
   simp only [List.mem_append, List.mem_singleton]
   constructor
   ·rintro (((h | h) | h) | h)
    ·exact .inr (.inl (.inr h))
    ·exact .inl h
    ·exact .inr (.inl (.inl h))
    ·exact .inr (.inr h)
   ·rintro (h | ((h | h) | h))
    ·exact .inl (.inl (.inr h))
    ·exact .inl (.inr h)
    ·exact .inl (.inl (.inl h))
    ·exact .inr h
  ·rcases List.mem_append.1 hy with hy | hy
   ·rcases List.mem_append.1 hy with hy | hy
    ·exact (b1 z).2 (.inl (a2 y hy z hz))
    ·simp only [List.mem_singleton] at hy; subst hy
     exact (b1 z).2 (.inl (a3 z hz))
   ·exact b2 y hy z hz
  ·rcases List.mem_cons.1 hy with rfl | hy
   ·exact (b1 y).2 (.inl hxS1)
   ·exact b3 y hy
  ·rcases List.mem_append.1 hy with hy | hy
   ·rcases List.mem_append.1 hy with hy | hy
    ·obtain ⟨z, hz, hr⟩ := a4 y hy
     exact ⟨x, List.mem_cons_self, .head (by rw [h1]; simp) hz (hr.mono fun w hw => (hset w).2 (.inr hw))⟩
    ·simp only [List.mem_singleton] at hy; subst hy
     exact ⟨y, List.mem_cons_self, .refl (by rw [h1]; simp)⟩
   ·obtain ⟨z, hz, hr⟩ := b4 y hy
    exact ⟨z, List.mem_cons_of_mem _ hz, hr.mono hmono⟩
theorem Dfs.seen (h : Dfs g xs S o S' o') (hg : ∀ x, x < S.length → ∀ y ∈ g x, y < S.length) (hxs : ∀ x ∈ xs, x < S.length) (y : Nat) :
  S'.getD y false = true ↔ S.getD y false = true ∨ ∃ x ∈ xs, Rch g (fun z => S.getD z false = true) x y := by
 obtain ⟨t, e, a1, a2, a3, a4⟩ := h.adds hg hxs
 constructor
 ·intro hy
  rcases (a1 y).1 hy with hy | hy
  ·exact .inl hy
  ·exact .inr (a4 y hy)
 ·rintro (hy | ⟨x, hx, hr⟩)
  ·exact h.mono y hy
  ·induction hr with
   | refl _ => exact a3 _ hx
   | step h1 h2 h3 ih =>
    rcases (a1 _).1 ih with h | h
    ·exact absurd h h1.snd
    ·exact a2 _ h _ h2
theorem Qaxi : ∀ {l k : List Nat}, l.Pairwise (· < ·) → k.Pairwise (· < ·) → (∀ x, x ∈ l ↔ x ∈ k) → l = k
 | [], [], _, _, _ => rfl
 | [], b :: k, _, _, h => by have := (h b).2 List.mem_cons_self; simp at this
 | a :: l, [], _, _, h => by have := (h a).1 List.mem_cons_self; simp at this
 | a :: l, b :: k, h1, h2, h => by
  rw [List.pairwise_cons] at h1 h2
  have hab : a = b := by
   rcases List.mem_cons.1 ((h a).1 List.mem_cons_self) with e | e
   ·exact e
   ·rcases List.mem_cons.1 ((h b).2 List.mem_cons_self) with e' | e'
    ·exact e'.symm
    ·have := h1.1 b e'; have := h2.1 a e; omega
  subst hab
  congr 1
  refine Qaxi h1.2 h2.2 fun x => ⟨fun hx => ?_, fun hx => ?_⟩
  ·rcases List.mem_cons.1 ((h x).1 (List.mem_cons_of_mem _ hx)) with e | e
   ·subst e; have := h1.1 x hx; omega
   ·exact e
  ·rcases List.mem_cons.1 ((h x).2 (List.mem_cons_of_mem _ hx)) with e | e
   ·subst e; have := h2.1 x hx; omega
   ·exact e
theorem Qa1z {l : List Nat} {n : Nat} {p : Nat → Bool} (h1 : l.Pairwise (· < ·)) (h : ∀ x, x ∈ l ↔ x < n ∧ p x = true) : l = (List.range n).filter p :=
 Qaxi h1 (List.Pairwise.filter _ List.pairwise_lt_range) fun x => by rw [h]; simp [List.mem_filter]
noncomputable def rchB (g : Nat → List Nat) (a : Int) (x : Nat) : Bool := decide (Rch g (fun z => (z : Int) = a) 0 x)
noncomputable def domB (g : Nat → List Nat) (a b : Nat) : Bool := rchB g (-1) a && rchB g (-1) b && !rchB g a b
def Qajv (n : Nat) (g : Nat → List Nat) (h : Nat) : List Nat := (List.range n).filter fun i => decide (h ∈ g i)
noncomputable def Qbdd (n : Nat) (g : Nat → List Nat) (h : Nat) : Bool := (Qajv n g h).any fun p => domB g h p
noncomputable def headL (n : Nat) (g : Nat → List Nat) : List Nat := (List.range n).filter (Qbdd n g)
inductive Bdy (n : Nat) (g : Nat → List Nat) (h : Nat) : Nat → Prop
 | head : Bdy n g h h
 | back {p : Nat} : p ∈ Qajv n g h → domB g h p = true → Bdy n g h p
 | more {b p : Nat} : Bdy n g h b → b ≠ h → p ∈ Qajv n g b → rchB g (-1) p = true → Bdy n g h p
noncomputable def Qa5y (n : Nat) (g : Nat → List Nat) (h : Nat) : List Nat := (List.range n).filter fun b => decide (Bdy n g h b)
variable {n h : Nat}
theorem predL_mem {p : Nat} : p ∈ Qajv n g h ↔ p < n ∧ h ∈ g p := by simp [Qajv]
theorem Bdy.lt {b : Nat} (hh : h < n) (hb : Bdy n g h b) : b < n := by
 cases hb with
 | head => exact hh
 | back h1 _ => exact (predL_mem.1 h1).1
 | more _ _ h1 _ => exact (predL_mem.1 h1).1
theorem Qa15 (hh : h < n) {b : Nat} : b ∈ Qa5y n g h ↔ Bdy n g h b := by
 simp only [Qa5y, List.mem_filter, List.mem_range, decide_eq_true_eq]
 exact ⟨fun h => h.2, fun h => ⟨h.lt hh, h⟩⟩
theorem Qa14 : (Qa5y n g h).Pairwise (· < ·) := List.Pairwise.filter _ List.pairwise_lt_range
end Go.AE.Y

namespace Go.AE.Y
open Go.Proofs.Tryz
variable {H : Heap} {K : V → Heap → Prop}
theorem GRd.ows {c : C} {rows : List (List C)} {nx : Nat → List Int} (h : GRd H c rows nx) {i : Nat} (hi : i < rows.length) {a1 a2 a3 a4 a5 : C} (hr : rows.getD i [] = [a1, a2, a3, a4, a5]) :
  a1.isOw = false ∧ a2.isOw = false ∧ a3.isOw = false ∧ a4.isOw = false ∧ a5.isOw = false := by
 have := h.no _ (List.getElem_mem hi)
 have e : rows[i] = [a1, a2, a3, a4, a5] := by rw [← hr]; simp [List.getD_eq_getElem?_getD, hi]
 rw [e] at this
 simpa [Go.AE.noOw] using this
def Q6e (nx : Nat → List Int) (b : Int) (n : Nat) : List Int := if decide (0 ≤ b) && decide (b ≤ (n : Int) - 1) then Qas nx b n else []
set_option maxHeartbeats 1000000 in
theorem Qamf {p rg : Int} {bc : C} {rows : List (List C)} {nx : Nat → List Int} {b : Int} (hg : GRd H bc rows nx)
  (hK : ∀ fl H', Upd H H' [] → K (.c (.sl fl 1 (Qe (Q6e nx b rows.length)))) H') : Qp prog Qfh [.ag [.int .i64 p, .int .i64 rg, bc], .c (.int .i64 b)] H K := by
 refine Q0 ?_
 refine Qb Qat Qamz ?_
 have how := hg.ow
 have hok := eq_true hg.s.ok
 have hlen := hg.s.len
 have hsz := hg.s.sz
 refine Qa ?_
 simp only [go_sem, how]
 refine Qa ?_
 simp only [go_sem, how]
 refine Q4 ?_
 refine Qa ?_
 simp only [go_sem, how, hok, hlen]
 intro hl
 simp only [LIM] at hl
 refine ⟨Qo (by omega) (by omega), ?_⟩
 refine Qcb ?_
 simp only [go_sem, Qo3]
 refine Qh (Qd rfl ?_ ?_)
 ·intro hc
  have hc' := Quv hc
  refine Qa ?_
  simp only [go_sem]
  refine Qj ?_
  simp only [go_sem, Qz, Qac, Qor, List.mem_singleton, forall_eq, RS.op]
  have h := hK false _ (Kn.start0 H).fin
  simp only [Q6e, hc'] at h
  exact ⟨_, .c _ _ FrzR.nil.sl, h⟩
 ·intro hc
  have hc' := Qg8 hc
  refine Qf ?_
  simp only [go_sem]
  refine Q4 ?_
  refine Qa ?_
  simp only [go_sem, how, hok, hlen]
  intro _
  refine Qh (Qc (Qu (fun m e1 H1 => ∃ (i : Nat) (c : C) (Lg : List (Nat × Obj)), m = rows.length - i ∧ i ≤ rows.length ∧ Gr Lg 1 (Qe (Qas nx b i)) c ∧ Kn H H1 [] ([] ++ Lg) ∧
   e1 = [(1, .c (.int .i64 b)), (5, .c c), (16, .c bc), (17, .c (.int .i64 rows.length)), (18, .c (.int .i64 i))]) rows.length ?_ ?_))
  ·exact ⟨0, _, [], by omega, by omega, .nil 1, Kn.start0 H, rfl⟩
  ·rintro m e1 H1 ⟨i, c, Lg, hm, hi, hgr, kn, rfl⟩
   have hg1 := hg.keep0 kn
   have hok1 := eq_true hg1.s.ok
   have hrw1 := hg1.s.rows
   refine Qa ?_
   simp only [go_sem]
   refine Qh (Qd rfl ?_ ?_)
   ·intro hc
    have hlt : i < rows.length := by simpa using hc
    obtain ⟨a1, a2, a3, a4, fl, hrow⟩ := hg.x i hlt
    obtain ⟨o1, o2, o3, o4, _⟩ := hg.ows hlt hrow
    refine Qf ?_
    simp only [go_sem]
    refine Qdm (fun e2 H2 => ∃ (c : C) (Lg : List (Nat × Obj)), Gr Lg 1 (Qe (Qas nx b (i + 1))) c ∧ Kn H H2 [] ([] ++ Lg) ∧
     lk 1 e2 = .c (.int .i64 b) ∧ lk 5 e2 = .c c ∧ lk 16 e2 = .c bc ∧ lk 17 e2 = .c (.int .i64 rows.length) ∧ lk 18 e2 = .c (.int .i64 i)) ?_ ?_
    ·intro Q hnr _ _
     refine Qc ?_
     refine Qa ?_
     simp only [go_sem, how, hok1, hlen, hsz, hrw1, hlt, hrow, o1, o2, o3, o4]
     intro x hx H2 h2
     have kn := (kn.al hx h2).perm List.perm_append_comm
     have hx2 := kn.l 0 rfl
     simp only [go_sem, Qo4, hx2]
     intro H3 h3
     have kn := kn.stL 0 rfl h3
     have hx3 := kn.l 0 rfl
     refine Qa ?_
     simp only [go_sem, hx3]
     refine Qayj (.mk' _ _ _ _) rfl ?_
     refine Qd rfl ?_ ?_
     ·intro hcon
      have hpl := Qkv nx b i
      refine Qq ?_
      simp only [go_sem]
      refine kn.grow (B := [_]) (new := Qe [(i : Int)]) hgr (.mk' _ _ _ _) (Qx _) (by simp only [Qg, LIM, List.length_cons, List.length_nil]; omega) fun y' H4 kn => ?_
      simp only [go_sem, Qo5]
      refine hnr _ _ ⟨_, _, ?_, (kn.perm List.perm_append_comm).drop, rfl, rfl, rfl, rfl, rfl⟩
      rw [Qhh, hcon, if_pos rfl, Qdb]
      exact .mk _ _ _ (by simp)
     ·intro hcon
      refine Qf ?_
      simp only [go_sem]
      refine hnr _ _ ⟨c, Lg, ?_, ?_, rfl, rfl, rfl, rfl, rfl⟩
      ·rw [Qhh, hcon]
       simpa using hgr
      ·have kn : Kn H H3 [] ([(x, .st [a1, a2, a3, a4, .sl fl 1 (Qe (nx i))])] ++ ([] ++ Lg)) := kn
       exact (kn.perm List.perm_append_comm).drop
    ·rintro e2 H2 ⟨c2, Lg2, hgr, kn, l1, l5, l16, l17, l18⟩
     refine Qq ?_
     simp only [go_sem, X.next, l1, l5, l16, l17, l18]
     exact ⟨Qo (by omega) (by omega), rows.length - (i + 1), by omega, i + 1, c2, Lg2, rfl, by omega, hgr, kn, rfl⟩
   ·intro hc
    have hge : i = rows.length := by have : ¬ i < rows.length := (by simpa using hc); omega
    subst hge
    refine Qt ?_
    simp only [go_sem, X.next]
    refine Qa ?_
    simp only [go_sem, hgr.isOw]
    refine Qj ?_
    simp only [go_sem, Qz, Qac, Qor, List.mem_singleton, forall_eq, RS.op, hgr.isOw]
    refine ⟨_, .c _ _ (hgr.frz kn (Qx _)), ?_⟩
    have := hK false _ kn.fin
    simp only [Q6e, hc'] at this
    exact this
end Go.AE.Y

namespace Go.AE.Y
attribute [local go_sem] cond_true cond_false Bool.not_true Bool.not_false
open Go.Proofs.Tryz
variable {H : Heap} {K : V → Heap → Prop}
theorem Qame {fl : Bool} {l : List InsD} {f : Nat} {caps : List C} {p : InsD → Bool}
  (hf : ∀ (x : InsD) (H1 : Heap) (K' : V → Heap → Prop), x ∈ l → (∀ H2, Upd H1 H2 [] → K' (.c (.bool (p x))) H2) → Qp prog f ([.ag x.cells] ++ caps.map .c) H1 K')
  (hK : ∀ (r : Int) (H' : Heap), Upd H H' [] → decide (0 ≤ r) = l.any p → K (.c (.int .i64 r)) H') :
  Qp prog Qc4 [.c (.sl fl 4 (Qaj l)), .c (.fn f caps)] H K := by
 refine Q0 ?_
 refine Qb Qat Qv8 ?_
 refine Qa ?_
 simp only [go_sem]
 refine Q4 ?_
 refine Qa ?_
 simp only [go_sem, Qab]
 intro hl
 simp only [LIM] at hl
 refine Qh (Qc (Qu (fun m e1 H1 => ∃ (i : Nat), m = l.length - i ∧ i ≤ l.length ∧ Kn H H1 [] [] ∧ (∀ x ∈ l.take i, p x = false) ∧ e1 = [(0, .c (.sl fl 4 (Qaj l))), (1, .c (.fn f caps)), (7, .c (.int .i64 l.length)), (8, .c (.int .i64 i))]) l.length ?_ ?_))
 ·exact ⟨0, by omega, by omega, Kn.start0 H, by simp, rfl⟩
 ·rintro m e1 H1 ⟨i, hm, hi, kn, hall, rfl⟩
  refine Qa ?_
  simp only [go_sem]
  refine Qh (Qd rfl ?_ ?_)
  ·intro hc
   have hlt : i < l.length := by simpa using hc
   refine Qf ?_
   simp only [go_sem]
   refine Qh (Qc ?_)
   refine Qa ?_
   simp only [go_sem]
   refine Qa ?_
   simp only [go_sem, hlt, Qab, Qa9 _ _ hlt, InsD.take4, InsD.allOw, InsD.len4]
   refine hf _ _ _ (List.getElem_mem hlt) fun H2 hu => ?_
   have kn := kn.call0 hu
   refine Qd rfl ?_ ?_
   ·intro hc2
    refine Qa ?_
    simp only [go_sem]
    refine Qj ?_
    simp only [go_sem, X.next, Qz, Qac, Qdw, List.mem_singleton, forall_eq, RS.op]
    refine ⟨_, .c _ _ (Qi rfl), hK _ _ kn.fin ?_⟩
    have : l.any p = true := List.any_eq_true.2 ⟨_, List.getElem_mem hlt, hc2⟩
    rw [this]; simp
   ·intro hc2
    refine Qf ?_
    simp only [go_sem]
    refine Qq ?_
    simp only [go_sem, X.next]
    refine ⟨Qo (by omega) (by omega), l.length - (i + 1), by omega, i + 1, rfl, by omega, kn, ?_, rfl⟩
    rw [List.take_succ_eq_append_getElem hlt]
    intro x hx
    rcases List.mem_append.1 hx with hx | hx
    ·exact hall x hx
    ·simp only [List.mem_singleton] at hx; subst hx; exact hc2
  ·intro hc
   have hge : l.length ≤ i := by simpa using hc
   rw [List.take_of_length_le hge] at hall
   refine Qt ?_
   simp only [go_sem, X.next]
   refine Qa ?_
   simp only [go_sem]
   refine Qj ?_
   simp only [go_sem, Qz, Qac, Qdw, List.mem_singleton, forall_eq, RS.op]
   refine ⟨_, .c _ _ (Qi rfl), hK _ _ kn.fin ?_⟩
   have : l.any p = false := by
    cases hc : l.any p with
    | false => rfl
    | true => obtain ⟨x, hx, hp⟩ := List.any_eq_true.1 hc; rw [hall x hx] at hp; exact absurd hp (by simp)
   rw [this]; rfl
theorem Q49 {fl : Bool} {l : List InsD} {f : Nat} {caps : List C} {p : InsD → Bool}
  (hf : ∀ (x : InsD) (H1 : Heap) (K' : V → Heap → Prop), x ∈ l → (∀ H2, Upd H1 H2 [] → K' (.c (.bool (p x))) H2) → Qp prog f ([.ag x.cells] ++ caps.map .c) H1 K')
  (hK : ∀ (H' : Heap), Upd H H' [] → K (.c (.bool (l.any p))) H') :
  Qp prog Qca [.c (.sl fl 4 (Qaj l)), .c (.fn f caps)] H K := by
 refine Qb Qat Qol ?_
 refine Qa ?_
 simp only [go_sem]
 refine Qa ?_
 simp only [go_sem]
 refine Qame hf fun r H' hu hr => ?_
 simp only [go_sem, Qdj]
 refine Qj ?_
 simp only [go_sem, Qz, Qac, Qe1, List.mem_singleton, forall_eq, RS.op]
 rw [hr]; exact hK _ hu
theorem Quk {x5 : Nat} {q : CodeD} {v : Int} (h5 : H x5 = .st q.cells) (hr : -(2^62) ≤ q.regs) (hr2 : q.regs ≤ 2^62) (hK : K (.c (.bool (decide (0 ≤ v ∧ v ≤ q.regs - 1)))) H) :
  Qp prog Qaf [.c (.int .i64 v), .c (.ptr x5 0)] H K := by
 refine Qb Qat Qac7 ?_
 refine Qa ?_
 simp only [go_sem]
 refine Qa ?_
 simp only [go_sem, h5, CodeD.cells]
 refine ⟨Qo (by omega) (by omega), ?_⟩
 refine Qcb ?_
 simp only [go_sem, Qjj]
 refine Qj ?_
 simp only [go_sem, Qz, Qac, Qs4, List.mem_singleton, forall_eq, RS.op]
 have e : (decide (0 ≤ v) && decide (v ≤ q.regs - 1)) = decide (0 ≤ v ∧ v ≤ q.regs - 1) := by simp
 rw [e]; exact hK
theorem Qaq8 {x5 : Nat} {q : CodeD} {v : Int} (h5 : H x5 = .st q.cells) (hb : q.blocks.length ≤ 2 ^ 38) (hK : K (.c (.bool (!Q2w (Ql q.blocks).length v))) H) :
  Qp prog Qf2 [.c (.int .i64 v), .c (.ptr x5 0)] H K := by
 refine Qb Qat Qac8 ?_
 refine Qa ?_
 simp only [go_sem]
 refine Qa ?_
 simp only [go_sem, h5, CodeD.cells, Qn]
 intro _
 refine ⟨Qo (by omega) (by omega), ?_⟩
 refine Qcb ?_
 simp only [go_sem, Qjk]
 refine Qj ?_
 simp only [go_sem, Qz, Qac, Qs5, List.mem_singleton, forall_eq, RS.op]
 have e : (decide (1 ≤ v) && decide (v ≤ (q.blocks.length : Int) - 1)) = Q2w (Ql q.blocks).length v := by simp [Q2w, Qn]
 rw [e]; exact hK
theorem Qaq9 {cs : List CodeD} {fl : Bool} {k : Nat} {x : InsD} (hk : k < cs.length) (hr : 0 ≤ cs[k].regs) (hr2 : cs[k].regs ≤ 300) (hcl : cs.length ≤ 100) (hK : ∀ (H' : Heap), Upd H H' [] → K (.c (.bool (!insG cs k x))) H') :
  Qp prog Qf3 [.ag x.cells, .c (.pp [.sl fl 3 (Qm cs)]), .c (.pp [.int .i64 k])] H K := by
 refine Qb Qat Qac9 ?_
 refine Qa ?_
 simp only [go_sem, InsD.cells]
 refine Qa ?_
 simp only [go_sem]
 refine Qa95 hk hr hr2 hcl fun H' hu => ?_
 simp only [go_sem, Qjl]
 refine Qj ?_
 simp only [go_sem, Qz, Qac, Qs6, List.mem_singleton, forall_eq, RS.op]
 exact hK _ hu
theorem Qara {x5 x6 : Nat} {q : CodeD} {v : Int} (h5 : H x5 = .st q.cells) (h6 : H x6 = .st [.fn Qaf [.ptr x5 0]]) (hr : -(2^62) ≤ q.regs) (hr2 : q.regs ≤ 2^62) (hK : K (.c (.bool (!decide (0 ≤ v ∧ v ≤ q.regs - 1)))) H) :
  Qp prog Qf4 [.c (.int .i64 v), .c (.ptr x6 0)] H K := by
 refine Qb Qat Qada ?_
 refine Qa ?_
 simp only [go_sem]
 refine Qa ?_
 simp only [go_sem, h6, List.cons_append, List.nil_append, List.map_cons, List.map_nil]
 refine Quk h5 hr hr2 ?_
 simp only [go_sem, Qjm]
 refine Qj ?_
 simp only [go_sem, Qz, Qac, Qs7, List.mem_singleton, forall_eq, RS.op]
 exact hK
end Go.AE.Y

namespace Go.AE.Y
attribute [local go_sem] cond_true cond_false Bool.not_true Bool.not_false
open Go.Proofs.Tryz
variable {H : Heap} {K : V → Heap → Prop}
attribute [local instance] Classical.propDecidable
def Q2p (b : BlkD) : Obj := .st [.sl false 2 (Q1 b.phis), .sl false 4 (Qaj b.ins), .int .i64 b.jump, .int .i64 b.on, .sl false 1 (Qe b.next)]
theorem Qamn {cs : List CodeD} {k : Nat} {hk : k < cs.length} (h : ¬ Qac1 cs k hk) : decide (Qac1 cs k hk) = false := decide_eq_false h
set_option maxHeartbeats 2000000 in
theorem Qa50 {cs : List CodeD} {fl : Bool} {k : Nat} (hk : k < cs.length) (hcl : cs.length ≤ 100) (hfit : cs[k].fits) (hK : ∀ (H' : Heap), Upd H H' [] → K (.c (.bool (decide (Qac1 cs k hk)))) H') :
  Qp prog Qn9 [.ag [.sl fl 3 (Qm cs)], .c (.int .i64 k)] H K := by
 refine Q0 ?_
 refine Qb Qat Qarp ?_
 have retf : ∀ (v : Bool) (e : Env) (H' : Heap) (L : List (Nat × Obj)), decide (Qac1 cs k hk) = v → Kn H H' [] L → lk 4 e = .c (.bool v) → Qz Qgf (fun x H' => ∃ x', FrzV H' (un H) x x' ∧ K x' (H'.frz (un H))) .ret e H' := by
  intro v e H' L hb kn h3
  simp only [go_sem, Qz, Qac, Qgf, List.mem_singleton, forall_eq, RS.op, h3]
  rw [← hb]; exact ⟨_, .c _ _ (Qi rfl), hK _ kn.fin⟩
 obtain ⟨q, hq⟩ : ∃ q, cs[k] = q := ⟨_, rfl⟩
 have hP : Qac1 cs k hk = (Qv4 q = true ∧ ∀ (b : Nat) (h : b < q.blocks.length), blkG cs k b q q.blocks[b] = true) := by subst hq; rfl
 refine Qa ?_
 simp only [go_sem]
 refine Qa ?_
 simp only [go_sem, hk, Qs, Q7 _ _ hk, CodeD.cells, hq]
 intro x5 hx5 H1 h1
 have kn := (Kn.start0 H).al hx5 h1
 have hx5 := kn.l 0 rfl
 simp only [go_sem, Qth, hx5]
 intro H2 h2
 have kn : Kn H H2 [] [(x5, .st q.cells)] := kn.stL 0 rfl h2
 have hx5 : H2 x5 = .st [.int .i64 q.params, .int .i64 q.regs, .sl false 5 (Ql q.blocks)] := kn.l 0 rfl
 refine Q4 ?_
 refine Qa ?_
 simp only [go_sem, hx5]
 refine Qcb ?_
 have rest0 : ∀ (b : Bool) (E1 : Env), Qv4 q = (!b) → lk 2 E1 = .c (.pp [.sl fl 3 (Qm cs)]) → lk 3 E1 = .c (.pp [.int .i64 k]) → lk 5 E1 = .c (.ptr x5 0) → lk 36 E1 = .c (.bool b) →
   Qah prog (s_im_codeOk_4.seq Qtg) (Qz Qgf (fun x H' => ∃ x', FrzV H' (un H) x x' ∧ K x' (H'.frz (un H)))) E1 H2 := by
  intro b E1 hb l2 l3 l5 l36
  refine Qh (Qd l36 ?_ ?_)
  ·intro hc
   refine Qa ?_
   simp only [go_sem]
   refine Qj ?_
   simp only [go_sem]
   exact retf false _ _ _ (Qamn fun h => by rw [hP, hb, hc] at h; simp at h) kn (by simp [lk])
  intro hc
  rw [hc] at hb
  have hb' := hb
  simp only [Qv4, Bool.not_false, Bool.and_eq_true, decide_eq_true_eq] at hb'
  obtain ⟨hr0, hr1, hb0, hbl⟩ : 0 ≤ q.regs ∧ q.regs ≤ 300 ∧ 0 < q.blocks.length ∧ q.blocks.length ≤ 160 := by omega
  refine Qf ?_
  simp only [go_sem]
  refine Qa ?_
  simp only [go_sem, l2, l3, l5]
  intro x6 hx6 H3 h3
  have kn := kn.al hx6 h3
  have hx6 := kn.l 1 rfl
  simp only [go_sem, Qti, hx6, l2, l3, l5]
  intro H4 h4
  have kn : Kn H H4 [] [(x5, .st q.cells), (x6, .st [.fn Qaf [.ptr x5 0]])] := kn.stL 1 rfl h4
  have hx5 : H4 x5 = .st [.int .i64 q.params, .int .i64 q.regs, .sl false 5 (Ql q.blocks)] := kn.l 0 rfl
  refine Q4 ?_
  refine Qa ?_
  simp only [go_sem, hx5, Qn]
  intro _
  refine Qh (Qc (Qu (fun m e1 H1 => ∃ (j : Nat), m = q.blocks.length - j ∧ j ≤ q.blocks.length ∧ (∀ (i : Nat) (hi : i < q.blocks.length), i < j → blkG cs k i q q.blocks[i] = true) ∧ Kn H H1 [] [(x5, .st q.cells), (x6, .st [.fn Qaf [.ptr x5 0]])] ∧
   e1 = [(2, .c (.pp [.sl fl 3 (Qm cs)])), (3, .c (.pp [.int .i64 k])), (5, .c (.ptr x5 0)), (6, .c (.ptr x6 0)), (39, .c (.sl false 5 (Ql q.blocks))), (40, .c (.int .i64 q.blocks.length)), (41, .c (.int .i64 j))]) q.blocks.length ?_ ?_))
  ·exact ⟨0, by omega, by omega, fun _ _ h => by omega, kn, rfl⟩
  ·rintro m e1 H5 ⟨j, hm, hj, hdone, kn, rfl⟩
   refine Qa ?_
   simp only [go_sem]
   refine Qh (Qd rfl ?_ ?_)
   ·intro hc1
    have hlt : j < q.blocks.length := by simpa using hc1
    have hbf : q.blocks[j].ins.length ≤ 2 ^ 38 ∧ q.blocks[j].phis.length ≤ 2 ^ 38 := by subst hq; exact hfit _ (List.getElem_mem hlt)
    refine Qf ?_
    simp only [go_sem]
    refine Qdm (fun e2 H2 => Kn H H2 [] [(x5, .st q.cells), (x6, .st [.fn Qaf [.ptr x5 0]])] ∧ blkG cs k j q q.blocks[j] = true ∧ lk 2 e2 = .c (.pp [.sl fl 3 (Qm cs)]) ∧ lk 3 e2 = .c (.pp [.int .i64 k]) ∧ lk 5 e2 = .c (.ptr x5 0) ∧ lk 6 e2 = .c (.ptr x6 0) ∧
     lk 39 e2 = .c (.sl false 5 (Ql q.blocks)) ∧ lk 40 e2 = .c (.int .i64 q.blocks.length) ∧ lk 41 e2 = .c (.int .i64 j)) ?_ ?_
    ·intro Q hnr hrt _
     replace hrt : ∀ e H', Qz Qgf (fun x H' => ∃ x', FrzV H' (un H) x x' ∧ K x' (H'.frz (un H))) .ret e H' → Q .ret e H' := fun e H' h => hrt e H' (by simpa only [go_sem, X.next] using h)
     have retq : ∀ (e : Env) (H' : Heap) (L : List (Nat × Obj)), blkG cs k j q q.blocks[j] = false → Kn H H' [] L → lk 4 e = .c (.bool false) → Q .ret e H' := fun e H' L hb kn l4 =>
      hrt e H' (retf false e H' L (Qamn fun h => by rw [hP] at h; rw [h.2 j hlt] at hb; exact absurd hb (by simp)) kn l4)
     have hGd : blkG cs k j q q.blocks[j] = (Qsh q.regs q.blocks[j] && q.blocks[j].next.all (Q2w (Ql q.blocks).length) && q.blocks[j].ins.all (insG cs k) && q.blocks[j].phis.all (phiG q.regs (Qas (gnx q) (j : Int) (Ql q.blocks).length).length j)) := rfl
     refine Qc ?_
     refine Qa ?_
     simp only [go_sem, hlt, Qn, Q5 _ _ hlt, BlkD.cells]
     obtain ⟨y, hy⟩ : ∃ y, q.blocks[j] = y := ⟨_, rfl⟩
     rw [hy] at hGd retq hbf hnr
     rw [hy]
     intro x8 hx8 H6 h6
     have kn := kn.al hx8 h6
     have hx8 := kn.l 2 rfl
     simp only [go_sem, Qtj, hx8]
     intro H7 h7
     have kn : Kn H H7 [] [(x5, .st q.cells), (x6, .st [.fn Qaf [.ptr x5 0]]), (x8, Q2p y)] := kn.stL 2 rfl h7
     have hx5 : H7 x5 = .st [.int .i64 q.params, .int .i64 q.regs, .sl false 5 (Ql q.blocks)] := kn.l 0 rfl
     have hx5' : H7 x5 = .st q.cells := kn.l 0 rfl
     have hx6 := kn.l 1 rfl
     have hx8 : H7 x8 = .st [.sl false 2 (Q1 y.phis), .sl false 4 (Qaj y.ins), .int .i64 y.jump, .int .i64 y.on, .sl false 1 (Qe y.next)] := kn.l 2 rfl
     have rest3 : ∀ (E1 : Env) (H8 : Heap), Qsh q.regs y = true → y.next.all (Q2w (Ql q.blocks).length) = true → y.ins.all (insG cs k) = true → Kn H H8 [] [(x5, .st q.cells), (x6, .st [.fn Qaf [.ptr x5 0]]), (x8, Q2p y)] →
       lk 2 E1 = .c (.pp [.sl fl 3 (Qm cs)]) → lk 3 E1 = .c (.pp [.int .i64 k]) → lk 5 E1 = .c (.ptr x5 0) → lk 6 E1 = .c (.ptr x6 0) → lk 7 E1 = .c (.int .i64 j) → lk 8 E1 = .c (.ptr x8 0) →
       lk 39 E1 = .c (.sl false 5 (Ql q.blocks)) → lk 40 E1 = .c (.int .i64 q.blocks.length) → lk 41 E1 = .c (.int .i64 j) → Qah prog Qih (X.inBlock 1 Q) E1 H8 := by
      intro E1 H8 g1 g2 g3 kn l2 l3 l5 l6 l7 l8 l39 l40 l41
      have hx5 : H8 x5 = .st [.int .i64 q.params, .int .i64 q.regs, .sl false 5 (Ql q.blocks)] := kn.l 0 rfl
      have hin : (decide (0 ≤ (j : Int)) && decide ((j : Int) ≤ ((Ql q.blocks).length : Int) - 1)) = true := by rw [Qn]; simp; omega
      refine Qa ?_
      simp only [go_sem, hx5, l2, l3, l5, l6, l7, l8, l39, l40, l41]
      refine Qamf (rows := Ql q.blocks) (nx := gnx q) (Q4y _ q false) fun fl' H9 hu => ?_
      have kn := kn.call0 hu
      rw [Q6e, if_pos hin]
      generalize hnp : Qas (gnx q) (j : Int) (Ql q.blocks).length = ps
      rw [hnp] at hGd
      simp only [go_sem, Qo6, l2, l3, l5, l6, l7, l8, l39, l40, l41, Qg]
      intro _
      have hx8 : H9 x8 = .st [.sl false 2 (Q1 y.phis), .sl false 4 (Qaj y.ins), .int .i64 y.jump, .int .i64 y.on, .sl false 1 (Qe y.next)] := kn.l 2 rfl
      refine Qa ?_
      simp only [go_sem, hx8, Qy]
      intro _
      refine Qc (Qu (fun m e1 H1 => ∃ (i : Nat), m = y.phis.length - i ∧ i ≤ y.phis.length ∧ (y.phis.take i).all (phiG q.regs ps.length j) = true ∧ Kn H H1 [] [(x5, .st q.cells), (x6, .st [.fn Qaf [.ptr x5 0]])] ∧
       e1 = [(2, .c (.pp [.sl fl 3 (Qm cs)])), (3, .c (.pp [.int .i64 k])), (5, .c (.ptr x5 0)), (6, .c (.ptr x6 0)), (7, .c (.int .i64 j)), (9, .c (.int .i64 ps.length)), (39, .c (.sl false 5 (Ql q.blocks))), (40, .c (.int .i64 q.blocks.length)), (41, .c (.int .i64 j)), (91, .c (.sl false 2 (Q1 y.phis))), (92, .c (.int .i64 y.phis.length)), (93, .c (.int .i64 i))]) y.phis.length ?_ ?_)
      ·exact ⟨0, by omega, by omega, rfl, kn.drop (A := [_, _]), rfl⟩
      ·rintro m2 e1 H10 ⟨i, hm2, hi, hall, kn, rfl⟩
       refine Qa ?_
       simp only [go_sem]
       refine Qh (Qd rfl ?_ ?_)
       ·intro hc2
        have hil : i < y.phis.length := by simpa using hc2
        refine Qf ?_
        simp only [go_sem]
        refine Qh (Qc ?_)
        refine Qa ?_
        simp only [go_sem, hil, Qy, Qa2 _ _ hil, PhiD.cells]
        obtain ⟨z, hz⟩ : ∃ z, y.phis[i] = z := ⟨_, rfl⟩
        rw [hz]
        intro x11 hx11 H11 h11
        have kn := kn.al hx11 h11
        have hx11 := kn.l 2 rfl
        simp only [go_sem, Qo7, hx11]
        intro H12 h12
        have kn : Kn H H12 [] ([(x5, .st q.cells), (x6, .st [.fn Qaf [.ptr x5 0]])] ++ [(x11, .st [.int .i64 z.to, .sl false 1 (Qe z.args)])]) := kn.stL 2 rfl h12
        have hx5' : H12 x5 = .st q.cells := kn.l 0 rfl
        have hx6 := kn.l 1 rfl
        have hx11 := kn.l 2 rfl
        have fin : ∀ (b3 : Bool) (E1 : Env), phiG q.regs ps.length j z = (!b3) → lk 2 E1 = .c (.pp [.sl fl 3 (Qm cs)]) → lk 3 E1 = .c (.pp [.int .i64 k]) → lk 5 E1 = .c (.ptr x5 0) → lk 6 E1 = .c (.ptr x6 0) → lk 7 E1 = .c (.int .i64 j) → lk 9 E1 = .c (.int .i64 ps.length) →
          lk 39 E1 = .c (.sl false 5 (Ql q.blocks)) → lk 40 E1 = .c (.int .i64 q.blocks.length) → lk 41 E1 = .c (.int .i64 j) → lk 91 E1 = .c (.sl false 2 (Q1 y.phis)) → lk 92 E1 = .c (.int .i64 y.phis.length) → lk 93 E1 = .c (.int .i64 i) → lk 118 E1 = .c (.bool b3) →
          Qah prog Qtd (X.inBlock 3 (X.sq prog Qte (X.next (fun e2 H2 => ∃ m, m < m2 ∧ ∃ (i : Nat), m = y.phis.length - i ∧ i ≤ y.phis.length ∧ (y.phis.take i).all (phiG q.regs ps.length j) = true ∧ Kn H H2 [] [(x5, .st q.cells), (x6, .st [.fn Qaf [.ptr x5 0]])] ∧
           e2 = [(2, .c (.pp [.sl fl 3 (Qm cs)])), (3, .c (.pp [.int .i64 k])), (5, .c (.ptr x5 0)), (6, .c (.ptr x6 0)), (7, .c (.int .i64 j)), (9, .c (.int .i64 ps.length)), (39, .c (.sl false 5 (Ql q.blocks))), (40, .c (.int .i64 q.blocks.length)), (41, .c (.int .i64 j)), (91, .c (.sl false 2 (Q1 y.phis))), (92, .c (.int .i64 y.phis.length)), (93, .c (.int .i64 i))])
           (X.inBlock 2 (X.inBlock 1 Q))))) E1 H12 := by
         intro b3 E1 hph l2 l3 l5 l6 l7 l9 l39 l40 l41 l91 l92 l93 l118
         refine Qd l118 ?_ ?_
         ·intro hc3
          refine Qa ?_
          simp only [go_sem]
          refine Qj ?_
          simp only [go_sem, X.next]
          exact retq _ _ _ (by rw [hGd, Qaiq hil (by rw [hz, hph, hc3]; rfl)]; simp) kn (by simp [lk])
         ·intro hc3
          refine Qf ?_
          simp only [go_sem]
          refine Qq ?_
          simp only [go_sem, X.next, l2, l3, l5, l6, l7, l9, l39, l40, l41, l91, l92, l93]
          exact ⟨Qo (by omega) (by omega), y.phis.length - (i + 1), by omega, i + 1, rfl, by omega, by rw [Q4u hil, hall, hz, hph, hc3]; rfl, kn.drop, rfl⟩
        have hpG : phiG q.regs ps.length j z = (!decide (j = 0) && decide ((z.args.length : Int) = ps.length) && Qox q.regs z.args && decide (0 ≤ z.to ∧ z.to ≤ q.regs - 1)) := rfl
        refine Qa ?_
        simp only [go_sem]
        cases hj0 : decide ((j : Int) = 0) with
        | true =>
         have hj0' : decide (j = 0) = true := by simpa using hj0
         simp only [go_sem, Qch, Qcg]
         exact fin true _ (by rw [hpG, hj0']; rfl) (by simp [lk]) (by simp [lk]) (by simp [lk]) (by simp [lk]) (by simp [lk]) (by simp [lk]) (by simp [lk]) (by simp [lk]) (by simp [lk]) (by simp [lk]) (by simp [lk]) (by simp [lk]) (by simp [lk])
        | false =>
         have hj0' : decide (j = 0) = false := by simpa using hj0
         simp only [go_sem, hx11, hx6, List.cons_append, List.nil_append, List.map_cons, List.map_nil]
         refine Quk hx5' (by omega) (by omega) ?_
         cases ht : decide (0 ≤ z.to ∧ z.to ≤ q.regs - 1) with
         | false =>
          simp only [go_sem, Qch, Qcg]
          exact fin true _ (by rw [hpG, ht]; simp) (by simp [lk]) (by simp [lk]) (by simp [lk]) (by simp [lk]) (by simp [lk]) (by simp [lk]) (by simp [lk]) (by simp [lk]) (by simp [lk]) (by simp [lk]) (by simp [lk]) (by simp [lk]) (by simp [lk])
         | true =>
          by_cases hal : (z.args.length : Int) = ps.length
          ·simp only [go_sem, Qch, hx11, Qg, hal, not_true_eq_false, decide_false, decide_true, Bool.not_true]
           intro _
           refine Qh0 (p := fun r => !decide (0 ≤ r ∧ r ≤ q.regs - 1)) (.mk' _ _ _ _) rfl (fun v K' hv hK' => Qara hx5' hx6 (by omega) (by omega) hK') ?_
           simp only [go_sem, Qcg]
           refine fin (z.args.any fun r => !decide (0 ≤ r ∧ r ≤ q.regs - 1)) _ ?_ (by simp [lk]) (by simp [lk]) (by simp [lk]) (by simp [lk]) (by simp [lk]) (by simp [lk]) (by simp [lk]) (by simp [lk]) (by simp [lk]) (by simp [lk]) (by simp [lk]) (by simp [lk]) (by simp [lk])
           rw [hpG, hj0', ht, Qaq4, hal, Qox]; simp
          ·simp only [go_sem, Qch, Qcg, hx11, Qg, hal, not_false_eq_true, decide_false, decide_true, Bool.not_false]
           intro _
           exact fin true _ (by rw [hpG]; simp [hal]) (by simp [lk]) (by simp [lk]) (by simp [lk]) (by simp [lk]) (by simp [lk]) (by simp [lk]) (by simp [lk]) (by simp [lk]) (by simp [lk]) (by simp [lk]) (by simp [lk]) (by simp [lk]) (by simp [lk])
       ·intro hc2
        have hge : y.phis.length ≤ i := by simpa using hc2
        rw [List.take_of_length_le hge] at hall
        refine Qt ?_
        simp only [go_sem, X.next]
        exact hnr _ _ ⟨kn, by rw [hGd, g1, g2, g3, hall]; rfl, rfl, rfl, rfl, rfl, rfl, rfl, rfl⟩
     have rest2 : ∀ (b1 : Bool) (E1 : Env), Qsh q.regs y = (!b1) → lk 2 E1 = .c (.pp [.sl fl 3 (Qm cs)]) → lk 3 E1 = .c (.pp [.int .i64 k]) → lk 5 E1 = .c (.ptr x5 0) → lk 6 E1 = .c (.ptr x6 0) → lk 7 E1 = .c (.int .i64 j) → lk 8 E1 = .c (.ptr x8 0) →
       lk 39 E1 = .c (.sl false 5 (Ql q.blocks)) → lk 40 E1 = .c (.int .i64 q.blocks.length) → lk 41 E1 = .c (.int .i64 j) → lk 75 E1 = .c (.bool b1) → Qah prog (s_im_codeOk_11.seq Qtf) (X.inBlock 1 Q) E1 H7 := by
      intro b1 E1 hb1 l2 l3 l5 l6 l7 l8 l39 l40 l41 l75
      refine Qh (Qd l75 ?_ ?_)
      ·intro hc2
       refine Qa ?_
       simp only [go_sem]
       refine Qj ?_
       simp only [go_sem]
       exact retq _ _ _ (by rw [hGd, hb1, hc2]; simp) kn (by simp [lk])
      intro hc2
      rw [hc2] at hb1
      refine Qf ?_
      simp only [go_sem]
      refine Q4 ?_
      refine Qa ?_
      simp only [go_sem, hx8, l2, l3, l5, l6, l7, l8, l39, l40, l41]
      refine Qh0 (p := fun v => !Q2w (Ql q.blocks).length v) (.mk' _ _ _ _) rfl (fun v K' hv hK' => Qaq8 hx5' (by omega) hK') ?_
      have fin : ∀ (b : Bool) (E1 : Env) (H8 : Heap), (y.next.all (Q2w (Ql q.blocks).length) && y.ins.all (insG cs k)) = (!b) → Kn H H8 [] [(x5, .st q.cells), (x6, .st [.fn Qaf [.ptr x5 0]]), (x8, Q2p y)] → lk 2 E1 = .c (.pp [.sl fl 3 (Qm cs)]) → lk 3 E1 = .c (.pp [.int .i64 k]) → lk 5 E1 = .c (.ptr x5 0) → lk 6 E1 = .c (.ptr x6 0) → lk 7 E1 = .c (.int .i64 j) → lk 8 E1 = .c (.ptr x8 0) →
        lk 39 E1 = .c (.sl false 5 (Ql q.blocks)) → lk 40 E1 = .c (.int .i64 q.blocks.length) → lk 41 E1 = .c (.int .i64 j) → lk 85 E1 = .c (.bool b) → Qah prog (s_im_codeOk_14.seq Qih) (X.inBlock 1 Q) E1 H8 := by
       intro b E1 H8 hb kn l2 l3 l5 l6 l7 l8 l39 l40 l41 l85
       refine Qh (Qd l85 ?_ ?_)
       ·intro hc3
        refine Qa ?_
        simp only [go_sem]
        refine Qj ?_
        simp only [go_sem]
        exact retq _ _ _ (by rw [hGd, Bool.and_assoc (Qsh _ _), hb, hc3]; simp) kn (by simp [lk])
       ·intro hc3
        rw [hc3] at hb
        simp only [Bool.not_false, Bool.and_eq_true] at hb
        refine Qf ?_
        simp only [go_sem]
        exact rest3 E1 H8 hb1 hb.1 hb.2 kn l2 l3 l5 l6 l7 l8 l39 l40 l41
      rw [Qaq4]
      cases ha : y.next.all (Q2w (Ql q.blocks).length) with
      | false =>
       simp only [go_sem, Qgo, Qgn, l2, l3, l5, l6, l7, l8, l39, l40, l41]
       exact fin true _ _ (by rw [ha]; rfl) kn (by simp [lk]) (by simp [lk]) (by simp [lk]) (by simp [lk]) (by simp [lk]) (by simp [lk]) (by simp [lk]) (by simp [lk]) (by simp [lk]) (by simp [lk])
      | true =>
       simp only [go_sem, Qgo, hx8, l2, l3, l5, l6, l7, l8, l39, l40, l41]
       refine Q49 (p := fun x => !insG cs k x) (fun x H1 K' hx hK' => Qaq9 hk (by rw [hq]; exact hr0) (by rw [hq]; exact hr1) hcl hK') fun H8 hu => ?_
       have kn := kn.call0 hu
       simp only [go_sem, Qgn, l2, l3, l5, l6, l7, l8, l39, l40, l41]
       refine fin (y.ins.any fun x => !insG cs k x) _ _ ?_ kn (by simp [lk]) (by simp [lk]) (by simp [lk]) (by simp [lk]) (by simp [lk]) (by simp [lk]) (by simp [lk]) (by simp [lk]) (by simp [lk]) (by simp [lk])
       rw [ha, ← List.not_all_eq_any_not]; simp
     refine Q4 ?_
     refine Qan ?_
     simp only [go_sem, hx8, Qg]
     refine Qar7 ?_
     have hjG : Qsh q.regs y = (decide ((y.next.length : Int) = Qm5 y.jump) && if y.jump = 1 then decide (y.on = 0) else decide (0 ≤ y.on ∧ y.on ≤ q.regs - 1)) := rfl
     by_cases hn : (y.next.length : Int) = Qm5 y.jump
     ·have hjmp : y.jump = 1 ∨ (y.jump = 2 ∨ y.jump = 3) ∧ ¬ y.jump = 1 := by
       rw [Qm5] at hn
       split at hn
       ·exact .inl ‹_›
       ·split at hn
        ·omega
        ·split at hn
         ·omega
         ·omega
      simp only [go_sem, Qgm, hx8, Qg, hn, not_true_eq_false, decide_false, decide_true, Bool.not_true]
      refine Q46 ?_
      rcases hjmp with h1 | ⟨h1, h2⟩
      ·have hu : (decide (y.jump = 2) || decide (y.jump = 3)) = false := by simp [h1]
       simp only [go_sem, Qet, Qc3, hu, hx8]
       refine Q46 ?_
       simp only [go_sem, Qc2, hu, hx8]
       exact rest2 (!decide (y.on = 0)) _ (by rw [hjG, if_pos h1, hn]; simp) (by simp [lk]) (by simp [lk]) (by simp [lk]) (by simp [lk]) (by simp [lk]) (by simp [lk]) (by simp [lk]) (by simp [lk]) (by simp [lk]) (by simp [lk])
      ·have hu : (decide (y.jump = 2) || decide (y.jump = 3)) = true := by simpa using h1
       simp only [go_sem, Qet, hu, hx8, hx6, List.cons_append, List.nil_append, List.map_cons, List.map_nil]
       refine Quk hx5' (by omega) (by omega) ?_
       cases ho : decide (0 ≤ y.on ∧ y.on ≤ q.regs - 1) with
       | true =>
        simp only [go_sem, Qc3, hx8]
        refine Q46 ?_
        simp only [go_sem, Qc2, hu, hx8]
        exact rest2 false _ (by rw [hjG, if_neg h2, hn, ho]; simp) (by simp [lk]) (by simp [lk]) (by simp [lk]) (by simp [lk]) (by simp [lk]) (by simp [lk]) (by simp [lk]) (by simp [lk]) (by simp [lk]) (by simp [lk])
       | false =>
        simp only [go_sem, Qc3, Qc2, hx8]
        exact rest2 true _ (by rw [hjG, if_neg h2, ho]; simp) (by simp [lk]) (by simp [lk]) (by simp [lk]) (by simp [lk]) (by simp [lk]) (by simp [lk]) (by simp [lk]) (by simp [lk]) (by simp [lk]) (by simp [lk])
     ·simp only [go_sem, Qgm, Qet, Qc3, Qc2, hx8, Qg, hn, not_false_eq_true, decide_false, decide_true, Bool.not_false]
      exact rest2 true _ (by rw [hjG]; simp [hn]) (by simp [lk]) (by simp [lk]) (by simp [lk]) (by simp [lk]) (by simp [lk]) (by simp [lk]) (by simp [lk]) (by simp [lk]) (by simp [lk]) (by simp [lk])
    ·rintro e2 H8 ⟨kn, hbg, l2, l3, l5, l6, l39, l40, l41⟩
     refine Qq ?_
     simp only [go_sem, X.next, l2, l3, l5, l6, l39, l40, l41]
     refine ⟨Qo (by omega) (by omega), q.blocks.length - (j + 1), by omega, j + 1, rfl, by omega, fun i hi hij => ?_, kn, rfl⟩
     by_cases h : i < j
     ·exact hdone i hi h
     ·have : i = j := by omega
      subst this; exact hbg
   ·intro hc1
    have hge : q.blocks.length ≤ j := by simpa using hc1
    refine Qt ?_
    simp only [go_sem, X.next]
    refine Qa ?_
    simp only [go_sem]
    refine Qj ?_
    exact retf true _ _ _ (decide_eq_true (by rw [hP]; exact ⟨by rw [hb]; rfl, fun b h => hdone b h (by omega)⟩)) kn (by simp [lk])
 have hH : Qv4 q = (decide (0 ≤ q.params ∧ q.params ≤ 3) && decide (q.params ≤ q.regs ∧ q.regs ≤ 300) && decide (1 ≤ (q.blocks.length : Int) ∧ (q.blocks.length : Int) ≤ 160)) := rfl
 by_cases hr : 0 ≤ q.regs ∧ q.regs ≤ 300
 ·have hr' : (decide (0 ≤ q.regs) && decide (q.regs ≤ 300)) = true := by simpa using hr
  simp only [go_sem, Qii, hr', hx5]
  refine Qcb ?_
  by_cases hp : 0 ≤ q.params ∧ q.params ≤ 3 ∧ q.params ≤ q.regs
  ·have hp' : (decide (0 ≤ q.params) && decide (q.params ≤ if q.regs < 3 then q.regs else 3)) = true := by
    split <;> simp <;> omega
   simp only [go_sem, Qes, hp', hx5, Qn]
   intro _
   refine Qcb ?_
   simp only [go_sem, Qer]
   refine rest0 _ _ ?_ (by simp [lk]) (by simp [lk]) (by simp [lk]) (by simp [lk]; rfl)
   have a1 : decide (0 ≤ q.params ∧ q.params ≤ 3) = true := by simp; omega
   have a2 : decide (q.params ≤ q.regs ∧ q.regs ≤ 300) = true := by simp; omega
   rw [hH, a1, a2]; simp
  ·have hp' : (decide (0 ≤ q.params) && decide (q.params ≤ if q.regs < 3 then q.regs else 3)) = false := by
    split <;> simp <;> omega
   simp only [go_sem, Qes, Qer, hp', hx5]
   refine rest0 true _ ?_ (by simp [lk]) (by simp [lk]) (by simp [lk]) (by simp [lk])
   rw [hH]; simp; omega
 ·have hr' : (decide (0 ≤ q.regs) && decide (q.regs ≤ 300)) = false := by simpa using hr
  simp only [go_sem, Qii, Qes, Qer, hr', hx5]
  refine rest0 true _ ?_ (by simp [lk]) (by simp [lk]) (by simp [lk]) (by simp [lk])
  rw [hH]; simp; omega
end Go.AE.Y

namespace Go.AE.Y
attribute [local go_sem] cond_true cond_false Bool.not_true Bool.not_false
open Go.Proofs.Tryz
variable {H : Heap} {K : V → Heap → Prop}
attribute [local instance] Classical.propDecidable
set_option maxHeartbeats 1000000 in
theorem Qdr {cs : List CodeD} {fl : Bool} (hfit : ∀ c ∈ cs, c.fits) (hK : ∀ (H' : Heap), Upd H H' [] → K (.c (.bool (Qfs cs))) H') :
  Qp prog Qbg [.ag [.sl fl 3 (Qm cs)]] H K := by
 refine Q0 ?_
 refine Qb Qat Qac4 ?_
 have retf : ∀ (b : Bool) (e : Env) (H' : Heap) (L : List (Nat × Obj)), Qfs cs = b → Kn H H' [] L → lk 2 e = .c (.bool b) → Qz Qib (fun x H' => ∃ x', FrzV H' (un H) x x' ∧ K x' (H'.frz (un H))) .ret e H' := by
  intro b e H' L hb kn h3
  simp only [go_sem, Qz, Qac, Qib, List.mem_singleton, forall_eq, RS.op, h3]
  rw [← hb]; exact ⟨_, .c _ _ (Qi rfl), hK _ kn.fin⟩
 have kn := Kn.start0 H
 refine Qa ?_
 simp only [go_sem]
 refine Q4 ?_
 refine Qa ?_
 simp only [go_sem, Qs]
 intro hcl
 refine Qcb ?_
 simp only [go_sem, Qjd]
 refine Qh (Qd rfl ?_ ?_)
 ·intro hc
  have hc' := Quv hc
  refine Qa ?_
  simp only [go_sem]
  refine Qj ?_
  simp only [go_sem]
  exact retf false _ _ _ (Qsb fun hu => by have h1 := hu.1; simp at hc'; omega) kn (by simp [lk])
 intro hc
 have hc' := Qg8 hc
 have hc4 : 1 ≤ cs.length ∧ cs.length ≤ 4 := by simp at hc'; omega
 refine Qf ?_
 simp only [go_sem]
 refine Qa ?_
 simp only [go_sem]
 refine Q4 ?_
 refine Qa ?_
 simp only [go_sem, Qs]
 intro _
 refine Qh (Qc (Qu (fun m e1 H1 => ∃ (k : Nat), m = cs.length - k ∧ k ≤ cs.length ∧ Qfr Qe3 (cs.take k) ≤ k * (160 * 549755813888) ∧ (∀ (i : Nat) (hi : i < cs.length), i < k → Qac1 cs i hi) ∧ Kn H H1 [] [] ∧
  e1 = [(1, .c (.pp [.sl fl 3 (Qm cs)])), (3, .c (.int .i64 (Qfr Qe3 (cs.take k) : Nat))), (12, .c (.sl fl 3 (Qm cs))), (13, .c (.int .i64 cs.length)), (14, .c (.int .i64 k))]) cs.length ?_ ?_))
 ·exact ⟨0, by omega, by omega, by simp [Qfr], fun _ _ h => by omega, kn, rfl⟩
 ·rintro m e1 H1 ⟨k, hm, hk, hsum, hdone, kn, rfl⟩
  refine Qa ?_
  simp only [go_sem]
  refine Qh (Qd rfl ?_ ?_)
  ·intro hc2
   have hlt : k < cs.length := by simpa using hc2
   have hss := Qbh (f := Qe3) hlt
   refine Qf ?_
   simp only [go_sem]
   refine Qh (Qc ?_)
   refine Qa ?_
   simp only [go_sem, hlt, Qs, Q7 _ _ hlt, CodeD.cells]
   obtain ⟨q, hq⟩ : ∃ q, cs[k] = q := ⟨_, rfl⟩
   have hqf : q.fits := by subst hq; exact hfit _ (List.getElem_mem hlt)
   rw [hq]
   intro x5 hx5 H2 h2
   have kn := kn.al hx5 h2
   have hx5 := kn.l 0 rfl
   simp only [go_sem, Qje, hx5]
   intro H3 h3
   have kn : Kn H H3 [] ([] ++ [(x5, .st [.int .i64 q.params, .int .i64 q.regs, .sl false 5 (Ql q.blocks)])]) := kn.stL 0 rfl h3
   refine Q4 ?_
   refine Qa ?_
   simp only [go_sem]
   refine Qa50 hlt (by omega) (by rw [hq]; exact hqf) fun H4 hu => ?_
   have kn := kn.call0 hu
   have hx5 := kn.l 0 rfl
   simp only [go_sem, Qjf]
   refine Qh (Qd rfl ?_ ?_)
   ·intro hc3
    have hno := of_decide_eq_false (Quv hc3)
    refine Qa ?_
    simp only [go_sem]
    refine Qj ?_
    simp only [go_sem, X.next]
    exact retf false _ _ _ (Qsb fun hu => hno (hu.2.1 k hlt)) kn (by simp [lk])
   ·intro hc3
    have hyes := of_decide_eq_true (Qg8 hc3)
    have hbl : q.blocks.length ≤ 160 := by
     have := hyes.1
     rw [hq] at this
     simp only [Qv4, Bool.and_eq_true, decide_eq_true_eq] at this
     omega
    have hcq : Qe3 q ≤ 160 * 549755813888 := Nat.le_trans (Qaqu hqf) (Nat.mul_le_mul_right _ hbl)
    have hk4 : k * (160 * 549755813888) ≤ 4 * (160 * 549755813888) := Nat.mul_le_mul_right _ (by omega)
    have hk1 : (k + 1) * (160 * 549755813888) = k * (160 * 549755813888) + 160 * 549755813888 := Nat.succ_mul _ _
    rw [hq] at hss
    refine Qf ?_
    simp only [go_sem]
    refine Qa ?_
    simp only [go_sem, hx5]
    refine Qke hqf hbl fun H5 hu => ?_
    have kn := kn.call0 hu
    simp only [go_sem, Qjg]
    refine ⟨Qo (by omega) (by omega), ?_⟩
    refine Qq ?_
    simp only [go_sem, X.next]
    refine ⟨Qo (by omega) (by omega), cs.length - (k + 1), by omega, k + 1, rfl, by omega, by rw [hss, hk1]; omega, fun i hi hik => ?_, kn.drop, ?_⟩
    ·by_cases h : i < k
     ·exact hdone i hi h
     ·have : i = k := by omega
      subst this; exact hyes
    ·rw [hss]; rfl
  ·intro hc2
   have hge : cs.length ≤ k := by simpa using hc2
   rw [List.take_of_length_le hge]
   refine Qt ?_
   simp only [go_sem, X.next]
   refine Qa ?_
   simp only [go_sem]
   refine Qj ?_
   refine retf (decide (((Qfr Qe3 cs : Nat) : Int) ≤ 800)) _ _ _ ?_ kn (by simp [lk])
   by_cases hs : Qfr Qe3 cs ≤ 800
   ·have h1 : Qfs cs = true := decide_eq_true ⟨by omega, fun i hi => hdone i hi (by omega), hs⟩
    rw [h1]; simp; omega
   ·rw [Qsb fun hu => hs hu.2.2]; simp; omega
noncomputable def hasG (cs : List CodeD) (k : Int) : Bool := Qfs cs && decide (0 ≤ k ∧ k ≤ (cs.length : Int) - 1)
theorem Qa5z {cs : List CodeD} {fl : Bool} {k : Int} (hfit : ∀ c ∈ cs, c.fits) (hK : ∀ (H' : Heap), Upd H H' [] → K (.c (.bool (hasG cs k))) H') :
  Qp prog Qn8 [.ag [.sl fl 3 (Qm cs)], .c (.int .i64 k)] H K := by
 refine Qb Qat Qaro ?_
 refine Qa ?_
 simp only [go_sem]
 refine Qa ?_
 simp only [go_sem]
 refine Qdr hfit fun H' hu => ?_
 have hK := hK H' hu
 cases hg : Qfs cs with
 | false =>
  simp only [go_sem, Qig, Qif]
  refine Qj ?_
  simp only [go_sem, Qz, Qac, Quz, List.mem_singleton, forall_eq, RS.op]
  rw [hasG, hg] at hK; exact hK
 | true =>
  simp only [go_sem, Qig, Qs]
  intro hl
  simp only [LIM] at hl
  refine ⟨Qo (by omega) (by omega), ?_⟩
  refine Qcb ?_
  simp only [go_sem, Qif]
  refine Qj ?_
  simp only [go_sem, Qz, Qac, Quz, List.mem_singleton, forall_eq, RS.op]
  have : hasG cs k = (decide (0 ≤ k) && decide (k ≤ (cs.length : Int) - 1)) := by rw [hasG, hg]; simp
  rw [this] at hK; exact hK
end Go.AE.Y

namespace Go.AE.Y
attribute [local instance] Classical.propDecidable
structure Flo where
 n : Nat
 nx : Nat → List Nat
 on : Nat → List Nat
 ins : Nat → List (Option Nat × List Nat)
 ph : Nat → List Nat
 ea : Nat → Nat → List Nat
abbrev RS' := Nat → Prop
def Qa6f (x : Option Nat × List Nat) (S : RS') : RS' := fun r => r ∈ x.2 ∨ (S r ∧ x.1 ≠ some r)
def behL (l : List (Option Nat × List Nat)) (S : RS') : RS' := l.foldr Qa6f S
theorem Qa10 {l : List (Option Nat × List Nat)} {S T : RS'} (h : ∀ r, S r → T r) : ∀ r, behL l S r → behL l T r := by
 induction l with
 | nil => exact h
 | cons x l ih =>
  rintro r (hr | ⟨hr, h2⟩)
  ·exact .inl hr
  ·exact .inr ⟨ih r hr, h2⟩
variable {F : Flo}
def Flo.endS (F : Flo) (X : RS') (b : Nat) : RS' := fun r => X r ∨ r ∈ F.on b
def Flo.beh (F : Flo) (X : RS') (b k : Nat) : RS' := behL ((F.ins b).drop k) (F.endS X b)
theorem Flo.beh_end (X : RS') (b k : Nat) (h : (F.ins b).length ≤ k) : F.beh X b k = F.endS X b := by rw [Flo.beh, List.drop_of_length_le h]; rfl
theorem Flo.beh_step (X : RS') (b k : Nat) (h : k < (F.ins b).length) : F.beh X b k = Qa6f (F.ins b)[k] (F.beh X b (k + 1)) := by
 rw [Flo.beh, List.drop_eq_getElem_cons h]; rfl
theorem Flo.beh_mono {X Y : RS'} (h : ∀ r, X r → Y r) (b k : Nat) : ∀ r, F.beh X b k r → F.beh Y b k r :=
 Qa10 fun r hr => hr.elim (fun h1 => .inl (h r h1)) .inr
theorem Flo.beh_congr {X Y : RS'} (h : ∀ r, X r ↔ Y r) (b k : Nat) : ∀ r, F.beh X b k r ↔ F.beh Y b k r := fun r =>
 ⟨Flo.beh_mono (fun r => (h r).1) b k r, Flo.beh_mono (fun r => (h r).2) b k r⟩
def Flo.outT (F : Flo) (I : Nat → RS') (b : Nat) : RS' := fun r => ∃ m ∈ F.nx b, I m r ∨ r ∈ F.ea b m
def Flo.thru (F : Flo) (X : RS') (b : Nat) : RS' := fun r => F.beh X b 0 r ∧ r ∉ F.ph b
def Flo.inT (F : Flo) (I : Nat → RS') (b : Nat) : RS' := F.thru (F.outT I b) b
theorem Flo.thru_mono {X Y : RS'} (h : ∀ r, X r → Y r) (b : Nat) : ∀ r, F.thru X b r → F.thru Y b r := fun r hr => ⟨Flo.beh_mono h b 0 r hr.1, hr.2⟩
def Flo.fits (F : Flo) : Prop := ∀ b, b < F.n → ∀ m ∈ F.nx b, m < F.n
variable {I J : Nat → RS'}
theorem Flo.outT_mono (hf : F.fits) (h : ∀ b, b < F.n → ∀ r, I b r → J b r) {b : Nat} (hb : b < F.n) : ∀ r, F.outT I b r → F.outT J b r := by
 rintro r ⟨m, hm, h1 | h1⟩
 ·exact ⟨m, hm, .inl (h m (hf b hb m hm) r h1)⟩
 ·exact ⟨m, hm, .inr h1⟩
theorem Flo.inT_mono (hf : F.fits) (h : ∀ b, b < F.n → ∀ r, I b r → J b r) {b : Nat} (hb : b < F.n) : ∀ r, F.inT I b r → F.inT J b r :=
 Flo.thru_mono (Flo.outT_mono hf h hb) b
def Flo.Pre (F : Flo) (J : Nat → RS') : Prop := ∀ b, b < F.n → ∀ r, F.inT J b r → J b r
def Flo.LI (F : Flo) (b : Nat) : RS' := fun r => ∀ J, F.Pre J → J b r
def Flo.LO (F : Flo) (b : Nat) : RS' := F.outT F.LI b
def Flo.LB (F : Flo) (b k : Nat) : RS' := F.beh (F.LO b) b k
theorem Flo.LI_pre (hf : F.fits) : F.Pre F.LI := fun b hb r hr J hJ => hJ b hb r (Flo.inT_mono hf (fun b hb r hr => hr J hJ) hb r hr)
def Flo.Below (F : Flo) (I : Nat → RS') : Prop := ∀ b, b < F.n → ∀ r, I b r → F.LI b r
theorem Flo.is_least (h1 : F.Pre I) (h2 : F.Below I) {b : Nat} (hb : b < F.n) (r : Nat) : I b r ↔ F.LI b r := ⟨h2 b hb r, fun h => h I h1⟩
theorem Flo.Below.inT (hf : F.fits) (h : F.Below I) {b : Nat} (hb : b < F.n) : ∀ r, F.inT I b r → F.LI b r := fun r hr => Flo.LI_pre hf b hb r (Flo.inT_mono hf h hb r hr)
theorem Flo.Below.outT (hf : F.fits) (h : F.Below I) {b : Nat} (hb : b < F.n) : ∀ r, F.outT I b r → F.LO b r := Flo.outT_mono hf h hb
theorem Flo.outT_congr (hf : F.fits) (h : ∀ b, b < F.n → ∀ r, I b r ↔ J b r) {b : Nat} (hb : b < F.n) (r : Nat) : F.outT I b r ↔ F.outT J b r :=
 ⟨Flo.outT_mono hf (fun b hb r => (h b hb r).1) hb r, Flo.outT_mono hf (fun b hb r => (h b hb r).2) hb r⟩
structure Flo.bd (F : Flo) (R : Nat) : Prop where
 on : ∀ b, b < F.n → ∀ r ∈ F.on b, r < R
 ins : ∀ b, b < F.n → ∀ x ∈ F.ins b, ∀ r ∈ x.2, r < R
 ea : ∀ b, b < F.n → ∀ m ∈ F.nx b, ∀ r ∈ F.ea b m, r < R
theorem Qa9k {l : List (Option Nat × List Nat)} {S : RS'} {R : Nat} (hl : ∀ x ∈ l, ∀ r ∈ x.2, r < R) (hS : ∀ r, S r → r < R) : ∀ r, behL l S r → r < R := by
 induction l with
 | nil => exact hS
 | cons x l ih =>
  rintro r (hr | ⟨hr, _⟩)
  ·exact hl x List.mem_cons_self r hr
  ·exact ih (fun y hy => hl y (List.mem_cons_of_mem _ hy)) r hr
theorem Flo.beh_lt {R : Nat} (h : F.bd R) {b : Nat} (hb : b < F.n) {X : RS'} (hX : ∀ r, X r → r < R) (k : Nat) : ∀ r, F.beh X b k r → r < R :=
 Qa9k (fun x hx => h.ins b hb x (List.mem_of_mem_drop hx)) fun r hr => hr.elim (hX r) (h.on b hb r)
theorem Flo.outT_lt {R : Nat} (hf : F.fits) (h : F.bd R) (hI : ∀ b, b < F.n → ∀ r, I b r → r < R) {b : Nat} (hb : b < F.n) : ∀ r, F.outT I b r → r < R := by
 rintro r ⟨m, hm, h1 | h1⟩
 ·exact hI m (hf b hb m hm) r h1
 ·exact h.ea b hb m hm r h1
theorem Flo.LI_lt {R : Nat} (hf : F.fits) (h : F.bd R) {b : Nat} : ∀ r, F.LI b r → r < R := fun r hr =>
 hr (fun _ r => r < R) fun b hb r hr => Flo.beh_lt h hb (Flo.outT_lt hf h (fun _ _ _ h => h) hb) 0 r hr.1
theorem Flo.LO_lt {R : Nat} (hf : F.fits) (h : F.bd R) {b : Nat} (hb : b < F.n) : ∀ r, F.LO b r → r < R := Flo.outT_lt hf h (fun _ _ => Flo.LI_lt hf h) hb
theorem Flo.LB_lt {R : Nat} (hf : F.fits) (h : F.bd R) {b : Nat} (hb : b < F.n) (k : Nat) : ∀ r, F.LB b k r → r < R := Flo.beh_lt h hb (Flo.LO_lt hf h hb) k
noncomputable def ascL (R : Nat) (S : RS') : List Nat := (List.range R).filter fun r => decide (S r)
theorem Qair {R : Nat} {S : RS'} {r : Nat} : r ∈ ascL R S ↔ r < R ∧ S r := by simp [ascL]
theorem Qa5x {R : Nat} {S : RS'} : (ascL R S).Pairwise (· < ·) := List.Pairwise.filter _ List.pairwise_lt_range
theorem Qku {a : List Nat} (ha : a.Nodup) : ∀ {b : List Nat}, (∀ x ∈ a, x ∈ b) → a.length ≤ b.length := by
 induction a with
 | nil => intro b _; simp
 | cons x a ih =>
  intro b h
  have hx := h x List.mem_cons_self
  have hn := List.nodup_cons.1 ha
  have := ih hn.2 (b := b.erase x) fun y hy => (List.mem_erase_of_ne (fun he => by subst he; exact hn.1 hy)).2 (h y (List.mem_cons_of_mem _ hy))
  rw [List.length_erase_of_mem hx] at this
  have hp := List.length_pos_of_mem hx
  simp only [List.length_cons]; omega
theorem Qanf {a b : List Nat} (ha : a.Nodup) (h : ∀ x ∈ a, x ∈ b) (hl : b.length ≤ a.length) : ∀ x ∈ b, x ∈ a := fun x hx => by
 refine Classical.byContradiction fun hxa => ?_
 have := Qku (a := x :: a) (List.nodup_cons.2 ⟨hxa, ha⟩) (b := b) fun y hy => by
  rcases List.mem_cons.1 hy with rfl | hy
  ·exact hx
  ·exact h y hy
 simp only [List.length_cons] at this; omega
theorem Qbz {a : List Nat} {R : Nat} (ha : a.Nodup) (h : ∀ x ∈ a, x < R) : a.length ≤ R := by
 have := Qku ha (b := List.range R) fun x hx => List.mem_range.2 (h x hx)
 simpa using this
def addK (ks : List Nat) (b : Nat) : List Nat := if b ∈ ks then ks else ks ++ [b]
theorem addK_mem {ks : List Nat} {b x : Nat} : x ∈ addK ks b ↔ x ∈ ks ∨ x = b := by
 rw [addK]; split
 ·exact ⟨.inl, fun h => h.elim id fun h => h ▸ ‹_›⟩
 ·simp
theorem Qr5 {ks : List Nat} {b : Nat} (h : ks.Nodup) : (addK ks b).Nodup := by
 rw [addK]; split
 ·exact h
 ·refine List.nodup_append.2 ⟨h, by simp, fun a ha c hc => ?_⟩
  simp at hc; subst hc; exact fun e => ‹¬ _› (e ▸ ha)
def tot (n : Nat) (S : Nat → List Nat) : Nat := ((List.range n).map fun b => (S b).length).sum
theorem Qx4 (n : Nat) (S : Nat → List Nat) : tot (n + 1) S = tot n S + (S n).length := by simp [tot, List.range_succ]
theorem Qbc0 {n R : Nat} {S : Nat → List Nat} (h : ∀ b, b < n → (S b).length ≤ R) : tot n S ≤ n * R := by
 induction n with
 | zero => simp [tot]
 | succ n ih =>
  rw [Qx4, Nat.succ_mul]
  have := ih fun b hb => h b (by omega)
  have := h n (by omega)
  omega
theorem Qa8v {n : Nat} {S T : Nat → List Nat} (h : ∀ b, b < n → (S b).length ≤ (T b).length) : tot n S ≤ tot n T := by
 induction n with
 | zero => simp [tot]
 | succ n ih =>
  rw [Qx4, Qx4]
  have := ih fun b hb => h b (by omega)
  have := h n (by omega)
  omega
theorem Qbc1 {n : Nat} {S T : Nat → List Nat} {c : Nat} (hc : c < n) (h : ∀ b, b < n → (S b).length ≤ (T b).length) (hlt : (S c).length < (T c).length) : tot n S < tot n T := by
 induction n with
 | zero => omega
 | succ n ih =>
  rw [Qx4, Qx4]
  have h1 := h n (by omega)
  by_cases hcn : c = n
  ·subst hcn
   have := Qa8v (n := c) (S := S) (T := T) fun b hb => h b (by omega)
   omega
  ·have := ih (by omega) fun b hb => h b (by omega)
   omega
end Go.AE.Y

namespace Go.AE.Y
attribute [local go_sem] cond_true cond_false Bool.not_true Bool.not_false
open Go.Proofs.Tryz
variable {H : Heap} {K : V → Heap → Prop}
attribute [local instance] Classical.propDecidable
def Qom (x : InsD) : Option Nat := if Qde x.op then some x.to.toNat else none
def toN (l : List Int) : List Nat := l.map Int.toNat
def Qbb3 (q : CodeD) (b m : Nat) : List Nat := (((q.blocks[m]?.map BlkD.phis).getD []).map fun p => (p.args.getD ((Qas (gnx q) (m : Int) q.blocks.length).idxOf (b : Int)) 0).toNat)
def Q3 (q : CodeD) : Flo where
 n := q.blocks.length
 nx b := nxN (gnx q) b
 on b := match q.blocks[b]? with
  | some y => if y.jump = 1 then [] else [y.on.toNat]
  | none => []
 ins b := match q.blocks[b]? with
  | some y => y.ins.map fun x => (Qom x, toN x.args)
  | none => []
 ph b := match q.blocks[b]? with
  | some y => y.phis.map fun p => p.to.toNat
  | none => []
 ea := Qbb3 q
def rIn (q : CodeD) (v : Int) : Prop := 0 ≤ v ∧ v < q.regs
structure BlkD.ok (q : CodeD) (b : Nat) (y : BlkD) : Prop where
 nxl : y.next.length ≤ 2
 nx : ∀ v ∈ y.next, 1 ≤ v ∧ v < q.blocks.length
 jmp : y.jump = 1 ∨ y.jump = 2 ∨ y.jump = 3
 on : ¬ y.jump = 1 → rIn q y.on
 args : ∀ x ∈ y.ins, ∀ v ∈ x.args, rIn q v
 to : ∀ x ∈ y.ins, Qde x.op = true → rIn q x.to
 pto : ∀ p ∈ y.phis, rIn q p.to
 pargs : ∀ p ∈ y.phis, ∀ v ∈ p.args, rIn q v
 pal : ∀ p ∈ y.phis, p.args.length = (Qas (gnx q) (b : Int) q.blocks.length).length
 al : ∀ x ∈ y.ins, x.args.length ≤ 3
structure CodeD.ok (q : CodeD) : Prop where
 r0 : 0 ≤ q.regs
 r1 : q.regs ≤ 300
 b0 : 0 < q.blocks.length
 b1 : q.blocks.length ≤ 160
 bs : ∀ (b : Nat) (h : b < q.blocks.length), q.blocks[b].ok q b
 il : ∀ (b : Nat) (h : b < q.blocks.length), q.blocks[b].ins.length ≤ 800 ∧ q.blocks[b].phis.length ≤ 800
theorem Qaxz {α : Type} {f : α → Nat} {l : List α} {x : α} (h : x ∈ l) : f x ≤ Qfr f l := by
 induction l with
 | nil => simp at h
 | cons y l ih =>
  simp only [Qfr, List.map_cons, List.sum_cons] at *
  rcases List.mem_cons.1 h with rfl | h
  ·omega
  ·have := ih h; omega
theorem Q0e {cs : List CodeD} (h : Qfs cs = true) {k : Nat} (hk : k < cs.length) : cs[k].ok := by
 obtain ⟨_, h2, h3⟩ := of_decide_eq_true h
 obtain ⟨g1, g2⟩ := h2 k hk
 simp only [Qv4, Bool.and_eq_true, decide_eq_true_eq] at g1
 refine ⟨by omega, by omega, by omega, by omega, fun b hb => ?_, fun b hb => ?_⟩
 ·have g := g2 b hb
  simp only [blkG, Bool.and_eq_true] at g
  obtain ⟨⟨⟨j, nx⟩, ins⟩, ph⟩ := g
  simp only [Qsh, Bool.and_eq_true, decide_eq_true_eq] at j
  obtain ⟨j1, j2⟩ := j
  rw [List.all_eq_true] at nx ins ph
  have hj : (cs[k].blocks[b].jump = 1 ∨ cs[k].blocks[b].jump = 2 ∨ cs[k].blocks[b].jump = 3) ∧ cs[k].blocks[b].next.length ≤ 2 := by
   rw [Qm5] at j1
   split at j1
   ·omega
   ·split at j1
    ·omega
    ·split at j1 <;> omega
  have hi : ∀ x ∈ cs[k].blocks[b].ins, (∀ v ∈ x.args, rIn cs[k] v) ∧ (Qde x.op = true → rIn cs[k] x.to) := fun x hx => by
   have := ins x hx
   simp only [insG, insH, Qox, Bool.and_eq_true, List.all_eq_true, decide_eq_true_eq, Qasf hk] at this
   obtain ⟨⟨⟨_, a1⟩, a2⟩, _⟩ := this
   refine ⟨fun v hv => by have := a1 v hv; exact ⟨by omega, by omega⟩, fun hm => ?_⟩
   rw [insT, hm, if_pos rfl, decide_eq_true_eq] at a2
   exact ⟨by omega, by omega⟩
  have hal : ∀ x ∈ cs[k].blocks[b].ins, x.args.length ≤ 3 := fun x hx => by
   have := ins x hx
   simp only [insG, Bool.and_eq_true] at this
   have h3 := this.2
   rw [insL] at h3
   split at h3
   ·simp only [Bool.and_eq_true, decide_eq_true_eq] at h3
    have hn : x.n.toNat < cs.length := by omega
    have := (h2 x.n.toNat hn).1
    simp only [Qv4, Bool.and_eq_true, decide_eq_true_eq] at this
    rw [Qar9 hn] at h3
    omega
   ·simp only [Bool.and_eq_true, decide_eq_true_eq] at h3
    have := argsN_in (op := x.op)
    omega
  have hp : ∀ p ∈ cs[k].blocks[b].phis, rIn cs[k] p.to ∧ (∀ v ∈ p.args, rIn cs[k] v) ∧ p.args.length = (Qas (gnx cs[k]) (b : Int) cs[k].blocks.length).length := fun p hp => by
   have := ph p hp
   simp only [phiG, Qox, Bool.and_eq_true, List.all_eq_true, decide_eq_true_eq, Qn] at this
   obtain ⟨⟨⟨_, a1⟩, a2⟩, a3⟩ := this
   have hgn : (fun i => (cs[k].blocks.map BlkD.next).getD i []) = gnx cs[k] := rfl
   rw [hgn] at a1
   exact ⟨⟨by omega, by omega⟩, fun v hv => by have := a2 v hv; exact ⟨by omega, by omega⟩, by omega⟩
  refine ⟨hj.2, fun v hv => ?_, hj.1, fun hn => ?_, fun x hx => (hi x hx).1, fun x hx => (hi x hx).2, fun p h => (hp p h).1, fun p h => (hp p h).2.1, fun p h => (hp p h).2.2, hal⟩
  ·have := nx v hv
   simp only [Q2w, decide_eq_true_eq, Qn] at this
   omega
  ·rw [if_neg hn, decide_eq_true_eq] at j2
   exact ⟨by omega, by omega⟩
 ·have a1 := Qaxz (f := Qe3) (List.getElem_mem hk)
  have a2 := Qaxz (f := Quj) (List.getElem_mem hb)
  simp only [Qe3, Quj] at *
  omega
variable {q : CodeD}
theorem Qaiv {b : Nat} (h : b < q.blocks.length) : (Q3 q).on b = if q.blocks[b].jump = 1 then [] else [q.blocks[b].on.toNat] := by simp [Q3, h]
theorem Q5g {b : Nat} (h : b < q.blocks.length) : (Q3 q).ins b = q.blocks[b].ins.map fun x => (Qom x, toN x.args) := by simp [Q3, h]
theorem Qaxq {b : Nat} (h : b < q.blocks.length) : (Q3 q).ph b = q.blocks[b].phis.map fun p => p.to.toNat := by simp [Q3, h]
theorem Qaiu {b m : Nat} (h : m < q.blocks.length) : (Q3 q).ea b m = q.blocks[m].phis.map fun p => (p.args.getD ((Qas (gnx q) (m : Int) q.blocks.length).idxOf (b : Int)) 0).toNat := by simp [Q3, Qbb3, h]
theorem Qahp {b : Nat} (h : b < q.blocks.length) : gnx q b = q.blocks[b].next := by simp [gnx, List.getD_eq_getElem?_getD, h]
theorem CodeD.ok.next (h : q.ok) {b m : Nat} (hb : b < q.blocks.length) (hm : m ∈ (Q3 q).nx b) : m < q.blocks.length ∧ (m : Int) ∈ gnx q b := by
 obtain ⟨v, hv, rfl⟩ := List.mem_map.1 hm
 have hv' := hv
 rw [Qahp hb] at hv'
 have := (h.bs b hb).nx v hv'
 refine ⟨by omega, ?_⟩
 have e : ((v.toNat : Nat) : Int) = v := by omega
 rw [e]; exact hv
theorem CodeD.ok.fitsF (h : q.ok) : (Q3 q).fits := fun b hb m hm => (h.next hb hm).1
theorem CodeD.ok.ix (h : q.ok) {b m : Nat} (hb : b < q.blocks.length) (hm : (m : Int) ∈ gnx q b) : (Qas (gnx q) (m : Int) q.blocks.length).idxOf (b : Int) < (Qas (gnx q) (m : Int) q.blocks.length).length := by
 refine List.idxOf_lt_length_of_mem ?_
 simp only [Qas, List.mem_map, List.mem_filter, List.mem_range]
 exact ⟨b, ⟨hb, List.contains_iff_mem.2 hm⟩, rfl⟩
theorem CodeD.ok.bdF (h : q.ok) : (Q3 q).bd q.regs.toNat := by
 refine ⟨fun b hb r hr => ?_, fun b hb x hx r hr => ?_, fun b hb m hm r hr => ?_⟩
 ·rw [Qaiv hb] at hr
  split at hr
  ·simp at hr
  ·have := (h.bs b hb).on ‹_›
   simp only [List.mem_singleton] at hr
   obtain ⟨a, b⟩ := this; omega
 ·rw [Q5g hb] at hx
  obtain ⟨y, hy, rfl⟩ := List.mem_map.1 hx
  obtain ⟨v, hv, rfl⟩ := List.mem_map.1 hr
  obtain ⟨a, b⟩ := (h.bs b hb).args y hy v hv; omega
 ·obtain ⟨h1, h2⟩ := h.next hb hm
  rw [Qaiu h1] at hr
  obtain ⟨p, hp, rfl⟩ := List.mem_map.1 hr
  have hix := h.ix hb h2
  have := (h.bs m h1).pal p hp
  have hmem : p.args.getD ((Qas (gnx q) (m : Int) q.blocks.length).idxOf (b : Int)) 0 ∈ p.args := by
   rw [List.getD_eq_getElem?_getD, List.getElem?_eq_getElem (by omega)]; exact List.getElem_mem _
  obtain ⟨a, b⟩ := (h.bs m h1).pargs p hp _ hmem; omega
theorem IsIx.idx {ns : List Int} {v r : Int} (h : IsIx ns v r) (hm : v ∈ ns) : r = (ns.idxOf v : Nat) := by
 rcases h with ⟨_, hn⟩ | ⟨i, rfl, h1, h2, h3⟩
 ·exact absurd hm hn
 ·have h4 : ns[i] = v := by rw [← h2, List.getD_eq_getElem?_getD, List.getElem?_eq_getElem h1]; rfl
  have h5 : ns.idxOf v = i := by
   have e : ns = ns.take i ++ ns[i] :: ns.drop (i + 1) := by rw [← List.drop_eq_getElem_cons h1, List.take_append_drop]
   rw [e, List.idxOf_append, if_neg h3, h4]
   simp [List.length_take]; omega
  rw [h5]
def Mem (bs : List Bool) (S : RS') : Prop := ∀ r, bs.getD r false = true ↔ S r
theorem Mem.congr {bs : List Bool} {S T : RS'} (h : Mem bs S) (hST : ∀ r, S r ↔ T r) : Mem bs T := fun r => (h r).trans (hST r)
theorem Qamt (S : List Bool) (x y : Nat) (v : Bool) : (S.set x v).getD y false = (if y = x ∧ x < S.length then v else S.getD y false) := by
 simp only [List.getD_eq_getElem?_getD, List.getElem?_set]
 by_cases h : x = y
 ·subst h
  by_cases h2 : x < S.length <;> simp [h2]
 ·have : ¬ y = x := fun e => h e.symm
  simp [h, this]
theorem Mem.ins {bs : List Bool} {S : RS'} (h : Mem bs S) {x : Nat} (hx : x < bs.length) : Mem (bs.set x true) (fun r => r = x ∨ S r) := fun r => by
 rw [Qamt]
 by_cases hr : r = x
 ·simp [hr, hx]
 ·simp only [hr, false_and, if_false, false_or]; exact h r
theorem Mem.del {bs : List Bool} {S : RS'} (h : Mem bs S) {x : Nat} (hx : x < bs.length) : Mem (bs.set x false) (fun r => S r ∧ r ≠ x) := fun r => by
 rw [Qamt]
 by_cases hr : r = x
 ·simp [hr, hx]
 ·simp only [hr, false_and, if_false, ne_eq, not_false_eq_true, and_true]; exact h r
theorem Mem.lt {bs : List Bool} {S : RS'} (h : Mem bs S) {r : Nat} (hr : S r) : r < bs.length := by
 have := (h r).2 hr
 refine Classical.byContradiction fun hn => ?_
 rw [List.getD_eq_getElem?_getD, List.getElem?_eq_none (by omega)] at this
 exact absurd this (by simp)
theorem Mem.none (n : Nat) : Mem (List.replicate n false) fun _ => False := fun r => by
 rw [List.getD_eq_getElem?_getD, List.getElem?_replicate]
 split <;> simp
end Go.AE.Y

namespace Go.AE.Y
attribute [local go_sem] cond_true cond_false Bool.not_true Bool.not_false
open Go.Proofs.Tryz
variable {H H0 : Heap} {K : V → Heap → Prop} {E L : List (Nat × Obj)}
def Qm4 (x : InsD) : Int := if Qde x.op then x.to else -1
theorem Qa1r {x : InsD} (hK : K (.c (.int .i64 (Qm4 x))) H) : Qp prog Qog [.ag x.cells] H K := by
 refine Qb Qat Qar3 ?_
 refine Qa ?_
 simp only [go_sem, InsD.cells]
 refine Q4 ?_
 refine Qa ?_
 simp only [go_sem]
 refine Qv6 ?_
 refine Qh (Qd rfl ?_ ?_)
 ·intro hc
  refine Qa ?_
  simp only [go_sem]
  refine Qj ?_
  simp only [go_sem, X.next, Qz, Qac, Qu4, List.mem_singleton, forall_eq, RS.op]
  rw [Qm4, hc, if_pos rfl] at hK; exact hK
 ·intro hc
  refine Qf ?_
  try simp only [go_sem]
  refine Qa ?_
  simp only [go_sem]
  refine Qj ?_
  simp only [go_sem, Qz, Qac, Qu4, List.mem_singleton, forall_eq, RS.op]
  rw [Qm4, hc, if_neg (by simp)] at hK; exact hK
theorem Qahq {x : InsD} (hK : K (.c (.int .i64 (Qm4 x))) H) : Qp prog Qhb [.ag x.cells] H K := by
 refine Qb Qat Qarn ?_
 refine Qa ?_
 simp only [go_sem, InsD.cells]
 refine Q4 ?_
 refine Qa ?_
 simp only [go_sem]
 refine Qayc ?_
 simp only [go_sem, Qtc]
 refine Qh (Qd rfl ?_ ?_)
 ·intro hc
  have hc := Quv hc
  refine Qa ?_
  simp only [go_sem]
  refine Qj ?_
  simp only [go_sem, X.next, Qz, Qac, Quy, List.mem_singleton, forall_eq, RS.op]
  rw [Qm4, hc, if_neg (by simp)] at hK; exact hK
 ·intro hc
  have hc := Qg8 hc
  refine Qf ?_
  try simp only [go_sem]
  refine Qa ?_
  simp only [go_sem]
  refine Qj ?_
  simp only [go_sem, Qz, Qac, Quy, List.mem_singleton, forall_eq, RS.op]
  rw [Qm4, hc, if_pos rfl] at hK; exact hK
theorem Qayg {l : List Int} {a : Nat} (h : a < l.length) : (toN l).take (a + 1) = (toN l).take a ++ [(l.getD a 0).toNat] := by
 have h' : a < (toN l).length := by simpa [toN] using h
 rw [List.take_succ_eq_append_getElem h']
 simp [toN, List.getD_eq_getElem?_getD, h]
theorem Qoj {l : List Int} {a : Nat} (h : a < l.length) : l.getD a 0 ∈ l := by
 rw [List.getD_eq_getElem?_getD, List.getElem?_eq_getElem h]; exact List.getElem_mem h
theorem rIn.nat {q : CodeD} {v : Int} (h : rIn q v) : v = (v.toNat : Int) ∧ v.toNat < q.regs.toNat := by obtain ⟨a, b⟩ := h; omega
set_option maxHeartbeats 2000000 in
theorem Q50 {q : CodeD} {fl : Bool} {ic oc cb : C} {orows : List (List C)} {b : Nat} {i : Int} {bs : List Bool} {W : RS'} (ho : q.ok) (hb : b < q.blocks.length) (hi : -1 ≤ i) (hi2 : i < q.blocks[b].ins.length)
  (kn : Kn H0 H E L) (hs : Slc H 1 orows oc) (how : oc.isOw = false) (hiw : ic.isOw = false) (hbl : b < orows.length) (hrow : orows.getD b [] = [cb]) (hcb : Slc H 1 (Qv bs) cb) (hcw : cb.isOw = false) (hlen : bs.length = q.regs.toNat) (hm : Mem bs W)
  (hK : ∀ y bs' H', bs'.length = q.regs.toNat → Mem bs' ((Q3 q).beh W b (i + 1).toNat) → Kn H0 H' E (L ++ [(y, .vec 1 (Qv bs'))]) → K (.c (.vsl y 1 0 q.regs.toNat)) H') :
  Qp prog Qhc [.ag [.int .i64 q.params, .int .i64 q.regs, .sl fl 5 (Ql q.blocks)], .ag [ic, oc], .c (.int .i64 b), .c (.int .i64 i)] H K := by
 have hr0 := ho.r0
 have hr1 := ho.r1
 obtain ⟨y, hy⟩ : ∃ y, q.blocks[b] = y := ⟨_, rfl⟩
 have hyo : y.ok q b := by rw [← hy]; exact ho.bs b hb
 have hil : y.ins.length ≤ 800 ∧ y.phis.length ≤ 800 := by rw [← hy]; exact ho.il b hb
 rw [hy] at hi2
 have hon : (Q3 q).on b = if y.jump = 1 then [] else [y.on.toNat] := by rw [Qaiv hb, hy]
 have hins : (Q3 q).ins b = y.ins.map fun x => (Qom x, toN x.args) := by rw [Q5g hb, hy]
 have hok := eq_true hs.ok
 have hol := hs.len
 have hoz := hs.sz
 have hor := hs.rows
 have hok2 := eq_true hcb.ok
 have hol2 := hcb.len
 have hoz2 := hcb.sz
 have hor2 := hcb.rows
 refine Qb Qat Qaru ?_
 refine Qa ?_
 simp only [go_sem, how, hiw]
 refine Qa ?_
 simp only [go_sem, how, hiw, hcw, hok, hol, hoz, hor, hbl, hrow, hok2, hol2, hoz2, hor2, Qaa, hlen, List.nil_append, List.length_nil, Nat.zero_add]
 refine ⟨.inl trivial, Qn6 _, by simp only [LIM]; omega, fun y9 hy9 H1 h1 => ?_⟩
 have kn := kn.al hy9 h1
 simp only [go_sem, Qtt]
 refine Qa ?_
 simp only [go_sem, hb, Qn, Q5 _ _ hb, BlkD.cells, hy]
 intro x10 hx10 H2 h2
 have kn := kn.al hx10 h2
 have hx10 := kn.l (L ++ [(y9, Obj.vec 1 (Qv bs))]).length (l := x10) (o := .st [.sl true 2 [], .sl true 4 [], .int .i64 0, .int .i64 0, .sl true 1 []]) (by simp)
 simp only [go_sem, Qtu, hx10]
 intro H3 h3
 have kn : Kn H0 H3 E ((L ++ [(y9, .vec 1 (Qv bs))]) ++ [(x10, Q2p y)]) := by
  have := kn.stL (L ++ [(y9, Obj.vec 1 (Qv bs))]).length (x := x10) (o := .st [.sl true 2 [], .sl true 4 [], .int .i64 0, .int .i64 0, .sl true 1 []]) (by simp) h3
  simpa [Q2p] using this
 have getx : ∀ {bs1 : List Bool} {H4 : Heap}, Kn H0 H4 E ((L ++ [(y9, .vec 1 (Qv bs1))]) ++ [(x10, Q2p y)]) → H4 x10 = .st [.sl false 2 (Q1 y.phis), .sl false 4 (Qaj y.ins), .int .i64 y.jump, .int .i64 y.on, .sl false 1 (Qe y.next)] ∧ H4 y9 = .vec 1 (Qv bs1) := fun {bs1 H4} kn =>
  ⟨(kn.get (x10, Q2p y) (by simp)).1, (kn.get (y9, .vec 1 (Qv bs1)) (by simp)).1⟩
 have putx : ∀ {bs1 bs2 : List Bool} {H4 H5 : Heap}, Kn H0 H4 E ((L ++ [(y9, .vec 1 (Qv bs1))]) ++ [(x10, Q2p y)]) → H5 = H4.set y9 (.vec 1 (Qv bs2)) → Kn H0 H5 E ((L ++ [(y9, .vec 1 (Qv bs2))]) ++ [(x10, Q2p y)]) := fun {bs1 bs2 H4 H5} kn h => by
  have := kn.stL L.length (x := y9) (o := .vec 1 (Qv bs1)) (by simp) h
  simpa using this
 have htk : ∀ (bs1 : List Bool), bs1.length = q.regs.toNat → (Qv bs1).take q.regs.toNat = Qv bs1 := fun bs1 h => List.take_of_length_le (by rw [Qaa]; omega)
 refine Q4 ?_
 refine Qa ?_
 obtain ⟨hx10, hy9⟩ := getx kn
 simp only [go_sem, hx10]
 refine Qdm (fun e2 H4 => ∃ (bs1 : List Bool), bs1.length = q.regs.toNat ∧ Mem bs1 ((Q3 q).endS W b) ∧ Kn H0 H4 E ((L ++ [(y9, .vec 1 (Qv bs1))]) ++ [(x10, Q2p y)]) ∧
  lk 3 e2 = .c (.int .i64 i) ∧ lk 9 e2 = .c (.vsl y9 1 0 q.regs.toNat) ∧ lk 10 e2 = .c (.ptr x10 0)) ?_ ?_
 ·intro Q hnr _ _
  refine Qd rfl ?_ ?_
  ·intro hc
   have hj : ¬ y.jump = 1 := by simpa using hc
   obtain ⟨hv, hvl⟩ := (hyo.on hj).nat
   have hvl' : y.on.toNat < bs.length := by omega
   generalize hr : y.on.toNat = r at *
   refine Qq ?_
   simp only [go_sem, hx10, hy9, hv, hvl, htk _ hlen, Qaa, hlen, Qea, Qav _ _ hvl', Nat.zero_add, Nat.le_refl]
   intro H4 h4
   refine hnr _ _ ⟨_, by rw [List.length_set]; exact hlen, ?_, putx kn h4, rfl, rfl, rfl⟩
   refine (hm.ins (by omega)).congr fun z => ?_
   rw [Flo.endS, hon, if_neg hj]; simp [or_comm]
  ·intro hc
   have hj : y.jump = 1 := by simpa using hc
   refine Qf ?_
   try simp only [go_sem]
   refine hnr _ _ ⟨bs, hlen, ?_, kn, rfl, rfl, rfl⟩
   refine hm.congr fun z => ?_
   rw [Flo.endS, hon, if_pos hj]; simp
 ·rintro e2 H4 ⟨bs1, hlen, hm, kn, l3, l9, l10⟩
  obtain ⟨hx10, hy9⟩ := getx kn
  refine Q4 ?_
  refine Qa ?_
  simp only [go_sem, l3, l9, l10, hx10, Qab]
  intro _
  refine ⟨Qo (by omega) (by omega), ?_⟩
  refine Qh (Qc (Qu (fun m e1 H1 => ∃ (k : Nat) (j : Int) (bs1 : List Bool), m = k ∧ k ≤ y.ins.length ∧ i + 1 ≤ k ∧ j = (k : Int) - 1 ∧ bs1.length = q.regs.toNat ∧ Mem bs1 ((Q3 q).beh W b k) ∧ Kn H0 H1 E ((L ++ [(y9, .vec 1 (Qv bs1))]) ++ [(x10, Q2p y)]) ∧
   e1 = [(3, .c (.int .i64 i)), (9, .c (.vsl y9 1 0 q.regs.toNat)), (10, .c (.ptr x10 0)), (11, .c (.int .i64 j))]) y.ins.length ?_ ?_))
  ·refine ⟨y.ins.length, _, bs1, rfl, Nat.le_refl _, by omega, rfl, hlen, hm.congr fun z => ?_, kn, rfl⟩
   rw [Flo.beh_end _ _ _ (by rw [hins, List.length_map]; exact Nat.le_refl _)]
  ·rintro m e1 H5 ⟨k, j, bs1, rfl, hk, hik, hjk, hlen, hm, kn, rfl⟩
   obtain ⟨hx10, hy9⟩ := getx kn
   refine Q4 ?_
   refine Qa ?_
   simp only [go_sem]
   refine Qh (Qd rfl ?_ ?_)
   ·intro hc
    have hgt : i < j := by simpa using hc
    obtain ⟨k, rfl⟩ : ∃ k', m = k' + 1 := ⟨m - 1, by omega⟩
    have hj : j = (k : Int) := by omega
    subst hj
    have hkl : k < y.ins.length := by omega
    obtain ⟨x, hx⟩ : ∃ x, y.ins[k] = x := ⟨_, rfl⟩
    have hxm : x ∈ y.ins := by rw [← hx]; exact List.getElem_mem hkl
    have hstep : (Q3 q).beh W b k = Qa6f (Qom x, toN x.args) ((Q3 q).beh W b (k + 1)) := by
     rw [Flo.beh_step _ _ _ (by rw [hins, List.length_map]; exact hkl)]
     simp only [hins, List.getElem_map, hx]
    refine Qf ?_
    try simp only [go_sem]
    refine Qdm (fun e2 H6 => ∃ (bs2 : List Bool), bs2.length = q.regs.toNat ∧ Mem bs2 ((Q3 q).beh W b k) ∧ Kn H0 H6 E ((L ++ [(y9, .vec 1 (Qv bs2))]) ++ [(x10, Q2p y)]) ∧
     lk 3 e2 = .c (.int .i64 i) ∧ lk 9 e2 = .c (.vsl y9 1 0 q.regs.toNat) ∧ lk 10 e2 = .c (.ptr x10 0) ∧ lk 11 e2 = .c (.int .i64 k)) ?_ ?_
    ·intro Q hnr _ _
     refine Qc ?_
     refine Qa ?_
     simp only [go_sem, hx10, hkl, Qab, Qa9 _ _ hkl, InsD.take4, InsD.allOw, InsD.len4, hx]
     refine Qa1r ?_
     simp only [go_sem, Qtv]
     refine Q4 ?_
     refine Qa ?_
     simp only [go_sem]
     refine Qdm (fun e2 H6 => ∃ (bs2 : List Bool), bs2.length = q.regs.toNat ∧ Mem bs2 (fun r => (Q3 q).beh W b (k + 1) r ∧ Qom x ≠ some r) ∧ Kn H0 H6 E ((L ++ [(y9, .vec 1 (Qv bs2))]) ++ [(x10, Q2p y)]) ∧
      lk 3 e2 = .c (.int .i64 i) ∧ lk 9 e2 = .c (.vsl y9 1 0 q.regs.toNat) ∧ lk 10 e2 = .c (.ptr x10 0) ∧ lk 11 e2 = .c (.int .i64 k)) ?_ ?_
     ·intro Q hnr _ _
      refine Qd rfl ?_ ?_
      ·intro hc2
       have hmk : Qde x.op = true := by
        cases hmk : Qde x.op with
        | true => rfl
        | false => simp [Qm4, hmk] at hc2
       obtain ⟨hv, hvl⟩ := (hyo.to x hxm hmk).nat
       have hvl' : x.to.toNat < bs1.length := by omega
       have hmi : Qm4 x = x.to := by rw [Qm4, hmk]; rfl
       have hmo : Qom x = some x.to.toNat := by rw [Qom, hmk]; rfl
       rw [hmi]
       rw [hmo] at hnr
       generalize hr : x.to.toNat = r at *
       refine Qq ?_
       simp only [go_sem, hx10, hy9, hv, hvl, htk _ hlen, Qaa, hlen, Qea, Qav _ _ hvl', Nat.zero_add, Nat.le_refl]
       intro H6 h6
       refine hnr _ _ ⟨_, by rw [List.length_set]; exact hlen, ?_, putx kn h6, rfl, rfl, rfl, rfl⟩
       refine (hm.del (by omega)).congr fun z => ?_
       simp [eq_comm]
      ·intro hc2
       have hmk : Qde x.op = false := by
        cases hmk : Qde x.op with
        | false => rfl
        | true =>
         have := (hyo.to x hxm hmk).1
         simp [Qm4, hmk] at hc2; omega
       have hmo : Qom x = none := by rw [Qom, hmk]; rfl
       rw [hmo] at hnr
       refine Qf ?_
       try simp only [go_sem]
       exact hnr _ _ ⟨bs1, hlen, hm.congr fun z => by simp, kn, rfl, rfl, rfl, rfl⟩
     ·rintro e2 H6 ⟨bs2, hlen, hm, kn, l3, l9, l10, l11⟩
      refine Qa ?_
      simp only [go_sem, l3, l9, l10, l11]
      refine Qc (Qu (fun m e1 H1 => ∃ (a : Nat) (bs2 : List Bool), m = x.args.length - a ∧ a ≤ x.args.length ∧ bs2.length = q.regs.toNat ∧ Mem bs2 (fun r => r ∈ (toN x.args).take a ∨ ((Q3 q).beh W b (k + 1) r ∧ Qom x ≠ some r)) ∧ Kn H0 H1 E ((L ++ [(y9, .vec 1 (Qv bs2))]) ++ [(x10, Q2p y)]) ∧
       e1 = [(3, .c (.int .i64 i)), (9, .c (.vsl y9 1 0 q.regs.toNat)), (10, .c (.ptr x10 0)), (11, .c (.int .i64 k)), (13, .c (.int .i64 a))]) x.args.length ?_ ?_)
      ·exact ⟨0, bs2, by omega, by omega, hlen, hm.congr fun z => by simp, kn, rfl⟩
      ·rintro m2 e1 H7 ⟨a, bs2, hm2, ha, hlen, hm, kn, rfl⟩
       obtain ⟨hx10, hy9⟩ := getx kn
       refine Q4 ?_
       refine Qa ?_
       simp only [go_sem, hx10, hkl, Qab, Qa9 _ _ hkl, InsD.cells, hx, Qg]
       intro hal
       simp only [LIM] at hal
       refine Qh (Qd rfl ?_ ?_)
       ·intro hc2
        have hlt : a < x.args.length := by simpa using hc2
        obtain ⟨hv, hvl⟩ := (hyo.args x hxm _ (Qoj hlt)).nat
        have htk2 := Qayg hlt
        have hvl' : (x.args.getD a 0).toNat < bs2.length := by omega
        generalize hr : (x.args.getD a 0).toNat = r at *
        refine Qf ?_
        try simp only [go_sem]
        refine Qh (Qc ?_)
        refine Qq ?_
        simp only [go_sem, hx10, hy9, hkl, Qab, Qa9 _ _ hkl, InsD.cells, hx, hlt, Qg, Q6 _ _ hlt, hv, hvl, htk _ hlen, Qaa, hlen, Qea, Qav _ _ hvl', Nat.zero_add, Nat.le_refl]
        intro H8 h8
        refine Qq ?_
        simp only [go_sem, X.next]
        refine ⟨Qo (by omega) (by omega), x.args.length - (a + 1), by omega, a + 1, _, rfl, by omega, by rw [List.length_set]; exact hlen, ?_, putx kn h8, rfl⟩
        refine (hm.ins (by omega)).congr fun z => ?_
        rw [htk2]
        simp only [List.mem_append, List.mem_singleton]
        constructor
        ·rintro (h | h | h)
         ·exact .inl (.inr h)
         ·exact .inl (.inl h)
         ·exact .inr h
        ·rintro ((h | h) | h)
         ·exact .inr (.inl h)
         ·exact .inl h
         ·exact .inr (.inr h)
       ·intro hc2
        have hge : x.args.length ≤ a := by simpa using hc2
        refine Qt ?_
        simp only [go_sem, X.next]
        refine hnr _ _ ⟨bs2, hlen, hm.congr fun z => ?_, kn, rfl, rfl, rfl, rfl⟩
        rw [hstep, List.take_of_length_le (by simpa [toN] using hge)]; rfl
    ·rintro e2 H6 ⟨bs2, hlen, hm, kn, l3, l9, l10, l11⟩
     refine Qq ?_
     simp only [go_sem, X.next, l3, l9, l10, l11]
     exact ⟨Qo (by omega) (by omega), k, by omega, k, (k : Int) - 1, bs2, rfl, by omega, by omega, rfl, hlen, hm, kn, rfl⟩
   ·intro hc
    have hle : ¬ i < j := by simpa using hc
    refine Qt ?_
    simp only [go_sem, X.next]
    refine Qa ?_
    simp only [go_sem]
    refine Qj ?_
    simp only [go_sem, Qz, Qac, Q6n, List.mem_singleton, forall_eq, RS.op]
    have e1 : (i + 1).toNat = m := by omega
    exact hK y9 bs1 H5 hlen (by rw [e1]; exact hm) kn.drop
end Go.AE.Y

namespace Go.AE.Y
attribute [local instance] Classical.propDecidable
structure Wk (g : Nat → List Nat) (a : Int) (n : Nat) (S : List Bool) (T : List Nat) : Prop where
 len : S.length = n
 s : ∀ x, S.getD x false = true → Rch g (fun z => (z : Int) = a) 0 x
 t : ∀ x ∈ T, (x : Int) ≠ a → Rch g (fun z => (z : Int) = a) 0 x
 c : ∀ x, S.getD x false = true → ∀ y ∈ g x, S.getD y false = true ∨ (y : Int) = a ∨ y ∈ T
 z : S.getD 0 false = true ∨ ((0 : Nat) : Int) = a ∨ 0 ∈ T
 r : ∀ x ∈ T, x < n
variable {g : Nat → List Nat} {a : Int} {n : Nat} {S : List Bool} {T : List Nat} {b : Nat}
theorem Qtb (n x : Nat) : (List.replicate n false).getD x false = false := by
 simp only [List.getD_eq_getElem?_getD, List.getElem?_replicate]
 split <;> rfl
theorem Wk.init (hn : 0 < n) : Wk g a n (List.replicate n false) [0] := by
 refine ⟨by simp, fun x h => ?_, fun x hx ha => ?_, fun x h => ?_, .inr (.inr (by simp)), fun x hx => ?_⟩
 ·rw [Qtb] at h; simp at h
 ·simp at hx; subst hx; exact .refl (by simpa using ha)
 ·rw [Qtb] at h; simp at h
 ·simp at hx; omega
theorem Wk.skip (h : Wk g a n S (T ++ [b])) (hb : (b : Int) = a ∨ S.getD b false = true) : Wk g a n S T := by
 refine ⟨h.len, h.s, fun x hx => h.t x (List.mem_append_left _ hx), fun x hx y hy => ?_, ?_, fun x hx => h.r x (List.mem_append_left _ hx)⟩
 ·rcases h.c x hx y hy with h1 | h1 | h1
  ·exact .inl h1
  ·exact .inr (.inl h1)
  ·rcases List.mem_append.1 h1 with h1 | h1
   ·exact .inr (.inr h1)
   ·simp at h1; subst h1
    rcases hb with hb | hb
    ·exact .inr (.inl hb)
    ·exact .inl hb
 ·rcases h.z with h1 | h1 | h1
  ·exact .inl h1
  ·exact .inr (.inl h1)
  ·rcases List.mem_append.1 h1 with h1 | h1
   ·exact .inr (.inr h1)
   ·simp at h1; subst h1
    rcases hb with hb | hb
    ·exact .inr (.inl hb)
    ·exact .inl hb
theorem Wk.go (h : Wk g a n S (T ++ [b])) (hba : (b : Int) ≠ a) (hg : ∀ y ∈ g b, y < n) : Wk g a n (S.set b true) (T ++ g b) := by
 have hb := h.t b (by simp) hba
 have hbn := h.r b (by simp)
 have hset : ∀ y, (S.set b true).getD y false = true ↔ y = b ∨ S.getD y false = true := by
  intro y
  rw [Q4x]
  by_cases hyx : y = b
  ·simp [hyx, h.len, hbn]
  ·simp [hyx]
 refine ⟨by simp [h.len], fun x hx => ?_, fun x hx ha => ?_, fun x hx y hy => ?_, ?_, fun x hx => ?_⟩
 ·rcases (hset x).1 hx with rfl | hx
  ·exact hb
  ·exact h.s x hx
 ·rcases List.mem_append.1 hx with hx | hx
  ·exact h.t x (List.mem_append_left _ hx) ha
  ·exact hb.step hx ha
 ·rcases (hset x).1 hx with rfl | hx
  ·exact .inr (.inr (List.mem_append_right _ hy))
  ·rcases h.c x hx y hy with h1 | h1 | h1
   ·exact .inl ((hset y).2 (.inr h1))
   ·exact .inr (.inl h1)
   ·rcases List.mem_append.1 h1 with h1 | h1
    ·exact .inr (.inr (List.mem_append_left _ h1))
    ·simp at h1; subst h1; exact .inl ((hset y).2 (.inl rfl))
 ·rcases h.z with h1 | h1 | h1
  ·exact .inl ((hset 0).2 (.inr h1))
  ·exact .inr (.inl h1)
  ·rcases List.mem_append.1 h1 with h1 | h1
   ·exact .inr (.inr (List.mem_append_left _ h1))
   ·simp at h1; exact .inl ((hset 0).2 (.inl h1))
 ·rcases List.mem_append.1 hx with hx | hx
  ·exact h.r x (List.mem_append_left _ hx)
  ·exact hg x hx
theorem Wk.fin (h : Wk g a n S []) : S = (List.range n).map (rchB g a) := by
 have hh : ∀ x, S.getD x false = true ↔ Rch g (fun z => (z : Int) = a) 0 x := by
  refine fun x => ⟨h.s x, fun hr => ?_⟩
  induction hr with
  | refl h0 =>
   rcases h.z with h1 | h1 | h1
   ·exact h1
   ·exact absurd h1 h0
   ·simp at h1
  | step h1 h2 h3 ih =>
   rcases h.c _ ih _ h2 with h4 | h4 | h4
   ·exact h4
   ·exact absurd h4 h3
   ·simp at h4
 refine List.ext_getElem? fun x => ?_
 by_cases hx : x < n
 ·have hxs : x < S.length := by rw [h.len]; exact hx
  have := hh x
  simp only [List.getD_eq_getElem?_getD, List.getElem?_eq_getElem hxs, Option.getD_some] at this
  rw [List.getElem?_eq_getElem hxs]
  simp only [List.getElem?_map, List.getElem?_range hx, Option.map_some, rchB]
  congr 1
  by_cases hr : Rch g (fun z => (z : Int) = a) 0 x
  ·rw [this.2 hr, decide_eq_true hr]
  ·rw [decide_eq_false hr]
   cases hv : S[x] with
   | false => rfl
   | true => exact absurd (this.1 hv) hr
 ·rw [List.getElem?_eq_none (by rw [h.len]; omega), List.getElem?_eq_none (by simp; omega)]
end Go.AE.Y

namespace Go.AE.Y
open Go.Proofs.Tryz
variable {H H0 : Heap} {K : V → Heap → Prop}
theorem Qis (n : Nat) : List.replicate n [C.bool false] = Qv (List.replicate n false) := by simp [Qv]
theorem Qar6 (l : List Nat) (i : Nat) (h : i < l.length) : (Qbp l).getD i [] = [.int .i64 ((l.getD i 0 : Nat) : Int)] := by
 simp [Qbp, Qe, List.getD_eq_getElem?_getD, h]
theorem Qah0 (a b : List Nat) : Qbp (a ++ b) = Qbp a ++ Qbp b := by simp [Qbp, Qe]
end Go.AE.Y

namespace Go.AE
variable {H0 F H : Heap} {E E0 E' L L1 L2 M : List (Nat × Obj)}
theorem Kn.startE (h : ∀ p ∈ E, H p.1 = p.2 ∧ p.2 ≠ .none) (hd : (E.map Prod.fst).Nodup) : Kn H H E [] :=
 ⟨by simpa using h, fun p hp => by rw [(h p hp).1]; exact (h p hp).2, by simp, hd, by simp, fun _ _ _ => rfl⟩
theorem Kn.mid (k : Kn H0 F E0 (L1 ++ L2)) : Kn F F L1 [] :=
 .startE (fun p hp => k.get p (List.mem_append_right _ (List.mem_append_left _ hp))) (by
  have := k.dL; rw [List.map_append] at this; exact (List.nodup_append.1 this).1)
theorem Kn.comp (k1 : Kn H0 F E0 (L1 ++ L2)) (k2 : Kn F H E' M) (hE : E'.map Prod.fst = L1.map Prod.fst) : Kn H0 H E0 ((E' ++ L2) ++ M) := by
 have hd := k1.dL
 rw [List.map_append] at hd
 obtain ⟨d1, d2, d3⟩ := List.nodup_append.1 hd
 have hE0 : ∀ p ∈ E0, F p.1 = p.2 ∧ p.2 ≠ .none := fun p hp => k1.get p (List.mem_append_left _ hp)
 have hL2 : ∀ p ∈ L2, F p.1 = p.2 ∧ p.2 ≠ .none := fun p hp => k1.get p (List.mem_append_right _ (List.mem_append_right _ hp))
 have inL1 : ∀ p ∈ E', ∃ q ∈ L1, q.1 = p.1 := fun p hp => by
  have := Qbc hp; rw [hE] at this
  obtain ⟨q, h1, h2⟩ := List.mem_map.1 this; exact ⟨q, h1, h2⟩
 have keep : ∀ m, F m ≠ .none → m ∉ L1.map Prod.fst → H m = F m := fun m h1 h2 => k2.chg m h1 (by rw [hE]; exact h2)
 have hE0L : ∀ p ∈ E0, ∀ q ∈ L1, p.1 ≠ q.1 := fun p hp q hq hh => k1.ext p hp (hh ▸ k1.loc q (List.mem_append_left _ hq))
 refine ⟨fun p hp => ?_, k1.ext, fun p hp => ?_, k1.dE, ?_, fun m hm hn => ?_⟩
 ·rcases List.mem_append.1 hp with hp | hp
  ·obtain ⟨h1, h2⟩ := hE0 p hp
   refine ⟨?_, h2⟩
   rw [keep p.1 (by rw [h1]; exact h2) (fun hh => ?_), h1]
   obtain ⟨q, hq, hqq⟩ := List.mem_map.1 hh
   exact hE0L p hp q hq hqq.symm
  ·rcases List.mem_append.1 hp with hp | hp
   ·rcases List.mem_append.1 hp with hp | hp
    ·exact k2.get p (List.mem_append_left _ hp)
    ·obtain ⟨h1, h2⟩ := hL2 p hp
     refine ⟨?_, h2⟩
     rw [keep p.1 (by rw [h1]; exact h2) (fun hh => ?_), h1]
     exact d3 _ hh _ (Qbc hp) rfl
   ·exact k2.get p (List.mem_append_right _ hp)
 ·rcases List.mem_append.1 hp with hp | hp
  ·rcases List.mem_append.1 hp with hp | hp
   ·obtain ⟨q, hq, hh⟩ := inL1 p hp
    rw [← hh]; exact k1.loc q (List.mem_append_left _ hq)
   ·exact k1.loc p (List.mem_append_right _ hp)
  ·have h1 := k2.loc p hp
   cases h0 : H0 p.1 with
   | none => rfl
   | _ =>
    by_cases hx : p.1 ∈ E0.map Prod.fst
    ·obtain ⟨q, hq, hh⟩ := List.mem_map.1 hx
     obtain ⟨a1, a2⟩ := hE0 q hq
     rw [hh, h1] at a1; exact absurd a1.symm a2
    ·have := k1.chg p.1 (by rw [h0]; simp) hx
     rw [h1, h0] at this; simp at this
 ·rw [List.map_append, List.map_append]
  refine List.nodup_append.2 ⟨List.nodup_append.2 ⟨k2.dE, d2, fun a ha b hb => ?_⟩, k2.dL, fun a ha b hb hab => ?_⟩
  ·rw [hE] at ha; exact d3 a ha b hb
  ·obtain ⟨q, hq, rfl⟩ := List.mem_map.1 hb
   have hf := k2.loc q hq
   rcases List.mem_append.1 ha with ha | ha
   ·obtain ⟨r, hr, rfl⟩ := List.mem_map.1 ha
    exact k2.ext r hr (hab ▸ hf)
   ·obtain ⟨r, hr, rfl⟩ := List.mem_map.1 ha
    obtain ⟨a1, a2⟩ := hL2 r hr
    rw [hab, hf] at a1; exact a2 a1.symm
 ·rw [keep m (by rw [k1.chg m hm hn]; exact hm) (fun hh => ?_), k1.chg m hm hn]
  obtain ⟨q, hq, rfl⟩ := List.mem_map.1 hh
  exact hm (k1.loc q (List.mem_append_left _ hq))
theorem Kn.upd (k : Kn H0 H E L) : Upd H0 H E := ⟨fun p hp => (k.get p (List.mem_append_left _ hp)).1, fun m hm hn => k.chg m hm hn⟩
theorem Y.FrzL.ptr {S : Nat → Bool} {l : Nat} {cells cells' : List C} (hS : S l = true) (hH : H l = .st cells) (h : FrzL H S cells cells') : FrzC H S (.ptr l 0) (.pp cells') := by
 obtain ⟨h1, h2⟩ := h.spec
 exact .ptr l 0 cells cells cells' hS hH rfl h1 h2
theorem Kn.growR {B Lg : List (Nat × Obj)} {K : V → Heap → Prop} {sz : Nat} {rows new : List (List C)} {b c : C} (kn : Kn H0 H E (B ++ Lg)) (hc : Gr Lg sz rows c) (hb : Slc H sz new b)
  (h1 : ∀ r ∈ new, noOw r = true) (h2 : rows.length + new.length ≤ LIM)
  (h : ∀ t Lg' H', Gr Lg' sz (rows ++ new) t → t.isOw = false → Kn H0 H' E (B ++ Lg') → K (.c t) H') : appQ H sz c b K :=
 kn.grow hc hb h1 h2 fun y' H' k => h _ _ H' (.mk y' sz _ (by simp)) rfl k
end Go.AE

namespace Go.AE.Y
open Go.Proofs.Tryz
variable {H H0 : Heap} {K : V → Heap → Prop}
def Qbbj (x3 x4 x5 : Nat) (p rg : Int) (bc : C) : List C := [.ptr x4 0, .pp [.int .i64 p, .int .i64 rg, bc], .ptr x5 0, .ptr x3 0]
def visE (x3 x4 x5 y n : Nat) (p rg : Int) (bc : C) (S : List Bool) (oc : C) : List (Nat × Obj) :=
 [(y, .vec 1 (Qv S)), (x3, .st [oc]), (x4, .st [.vsl y 1 0 n]), (x5, .st [.fn Q5j (Qbbj x3 x4 x5 p rg bc)])]
end Go.AE.Y

namespace Go.AE.Y
variable {ns : List Int} {n : Int} {at' : Nat}
structure InsAt (ns : List Int) (n : Int) (k : Nat) : Prop where
 le : k ≤ ns.length
 lo : ∀ i, i < k → ∀ (h : i < ns.length), ns[i] < n
 hi : ∀ (h : k < ns.length), n ≤ ns[k]
theorem InsAt.mem_of_asc {k : Nat} (h : InsAt ns n k) (ha : ns.Pairwise (· < ·)) : (∀ x ∈ ns.take k, x < n) ∧ (∀ x ∈ ns.drop k, n ≤ x) ∧ (∀ x ∈ ns.drop (k + 1), n < x) := by
 have hp := List.pairwise_iff_getElem.1 ha
 refine ⟨fun x hx => ?_, fun x hx => ?_, fun x hx => ?_⟩
 ·obtain ⟨i, hi, rfl⟩ := List.mem_iff_getElem.1 hx
  rw [List.getElem_take]
  rw [List.length_take] at hi
  exact h.lo i (by omega) (by omega)
 ·obtain ⟨i, hi, rfl⟩ := List.mem_iff_getElem.1 hx
  rw [List.getElem_drop]
  rw [List.length_drop] at hi
  have h1 := h.hi (by omega)
  by_cases h0 : i = 0
  ·subst h0; exact h1
  ·have := hp k (k + i) (by omega) (by omega) (by omega)
   exact Int.le_trans h1 (Int.le_of_lt this)
 ·obtain ⟨i, hi, rfl⟩ := List.mem_iff_getElem.1 hx
  rw [List.getElem_drop]
  rw [List.length_drop] at hi
  have h1 := h.hi (by omega)
  have := hp k (k + 1 + i) (by omega) (by omega) (by omega)
  exact Int.lt_of_le_of_lt h1 this
theorem InsAt.new {k : Nat} (h : InsAt ns n k) (ha : ns.Pairwise (· < ·)) (hn : ∀ (h : k < ns.length), ns[k] ≠ n) :
  (ns.take k ++ [n] ++ ns.drop k).Pairwise (· < ·) ∧ (∀ x, x ∈ ns.take k ++ [n] ++ ns.drop k ↔ x = n ∨ x ∈ ns) := by
 obtain ⟨h1, h2, h3⟩ := h.mem_of_asc ha
 have h4 : ∀ x ∈ ns.drop k, n < x := by
  intro x hx
  have hk : k < ns.length := by
   rcases Nat.lt_or_ge k ns.length with h | h
   ·exact h
   ·rw [List.drop_eq_nil_of_le h] at hx; simp at hx
  rw [List.drop_eq_getElem_cons hk] at hx
  rcases List.mem_cons.1 hx with rfl | hx
  ·have := h.hi hk; have := hn hk; omega
  ·exact h3 x hx
 refine ⟨?_, fun x => ?_⟩
 ·rw [List.append_assoc, List.pairwise_append]
  refine ⟨ha.sublist (List.take_sublist _ _), ?_, fun a ha' b hb => ?_⟩
  ·rw [List.singleton_append, List.pairwise_cons]
   exact ⟨h4, ha.sublist (List.drop_sublist _ _)⟩
  ·have := h1 a ha'
   rcases List.mem_append.1 hb with hb | hb
   ·simp at hb; subst hb; exact this
   ·have := h2 b hb; omega
 ·conv => rhs; rw [← List.take_append_drop k ns]
  simp only [List.mem_append, List.mem_singleton]
  constructor
  ·rintro ((h | h) | h)
   ·exact .inr (.inl h)
   ·exact .inl h
   ·exact .inr (.inr h)
  ·rintro (h | h | h)
   ·exact .inl (.inr h)
   ·exact .inl (.inl h)
   ·exact .inr h
end Go.AE.Y

namespace Go.AE.Y
open Go.Proofs.Tryz
variable {H H0 : Heap} {K : V → Heap → Prop}
theorem Qbae {c : C} {ns : List Int} {v : Int} (hs : Slc H 1 (Qe ns) c) (how : c.isOw = false) (hK : ∀ r, IsIx ns v r → K (.c (.int .i64 r)) H) :
  Qp prog Qaiw [.c c, .c (.int .i64 v)] H K := by
 refine Qb Qat Qbaq ?_
 have hok := eq_true hs.ok
 have hlen := hs.len
 have hsz := hs.sz
 have hrw := hs.rows
 refine Qa ?_
 simp only [go_sem, how]
 refine Q4 ?_
 refine Qa ?_
 simp only [go_sem, how]
 refine Qh (Qc (Qu (fun m e1 H1 => ∃ (i : Nat), m = ns.length - i ∧ i ≤ ns.length ∧ H1 = H ∧ v ∉ ns.take i ∧ e1 = [(0, .c c), (1, .c (.int .i64 v)), (5, .c (.int .i64 i))]) ns.length ?_ ?_))
 ·exact ⟨0, by omega, by omega, rfl, by simp, rfl⟩
 ·rintro m e1 H1 ⟨i, hm, hi, rfl, hno, rfl⟩
  refine Q4 ?_
  refine Qa ?_
  simp only [go_sem, how, hok, hlen, Qg]
  intro hl
  simp only [LIM] at hl
  refine Qh (Qd rfl ?_ ?_)
  ·intro hc
   have hlt : i < ns.length := by simpa using hc
   have hgd : ns.getD i 0 = ns[i] := by simp [List.getD_eq_getElem?_getD, hlt]
   refine Qf ?_
   simp only [go_sem]
   refine Qh (Qc ?_)
   refine Qa ?_
   simp only [go_sem, how, hok, hlen, hsz, hrw, hlt, Qg, Q6 _ _ hlt]
   refine Qd rfl ?_ ?_
   ·intro hc2
    have hv : ns.getD i 0 = v := by simpa using hc2
    refine Qa ?_
    simp only [go_sem]
    refine Qj ?_
    simp only [go_sem, X.next, Qz, Qac, Qasb, List.mem_singleton, forall_eq, RS.op]
    exact hK _ (.inr ⟨i, rfl, hlt, hv, hno⟩)
   ·intro hc2
    have hv : ¬ ns.getD i 0 = v := by simpa using hc2
    refine Qf ?_
    simp only [go_sem]
    refine Qq ?_
    simp only [go_sem, how, X.next]
    refine ⟨Qo (by omega) (by omega), ns.length - (i + 1), by omega, i + 1, rfl, by omega, ?_, rfl⟩
    rw [List.take_succ_eq_append_getElem hlt]
    simp only [List.mem_append, List.mem_singleton, not_or]
    exact ⟨hno, fun h => hv (by rw [hgd]; exact h.symm)⟩
  ·intro hc
   have hge : ns.length ≤ i := by simpa using hc
   rw [List.take_of_length_le hge] at hno
   refine Qt ?_
   simp only [go_sem, X.next]
   refine Qa ?_
   simp only [go_sem]
   refine Qj ?_
   simp only [go_sem, Qz, Qac, Qasb, List.mem_singleton, forall_eq, RS.op]
   exact hK _ (.inl ⟨rfl, hno⟩)
theorem Qbbk {c : C} {ns : List Int} {v : Int} (hs : Slc H 1 (Qe ns) c) (how : c.isOw = false) (hK : K (.c (.bool (ns.contains v))) H) :
  Qp prog Quq [.c c, .c (.int .i64 v)] H K := by
 refine Qb Qat Qazg ?_
 have hok := eq_true hs.ok
 have hlen := hs.len
 have hsz := hs.sz
 have hrw := hs.rows
 refine Qa ?_
 simp only [go_sem, how]
 refine Q4 ?_
 refine Qa ?_
 simp only [go_sem, how, hok, hlen, Qg]
 intro hl
 simp only [LIM] at hl
 refine Qh (Qc (Qu (fun m e1 H1 => ∃ (i : Nat), m = ns.length - i ∧ i ≤ ns.length ∧ H1 = H ∧ v ∉ ns.take i ∧ e1 = [(1, .c (.int .i64 v)), (7, .c c), (8, .c (.int .i64 ns.length)), (9, .c (.int .i64 i))]) ns.length ?_ ?_))
 ·exact ⟨0, by omega, by omega, rfl, by simp, rfl⟩
 ·rintro m e1 H1 ⟨i, hm, hi, rfl, hno, rfl⟩
  refine Qa ?_
  simp only [go_sem, how]
  refine Qh (Qd rfl ?_ ?_)
  ·intro hc
   have hlt : i < ns.length := by simpa using hc
   have hgd : ns.getD i 0 = ns[i] := by simp [List.getD_eq_getElem?_getD, hlt]
   refine Qf ?_
   simp only [go_sem]
   refine Qh (Qc ?_)
   refine Qa ?_
   simp only [go_sem, how, hok, hlen, hsz, hrw, hlt, Qg, Q6 _ _ hlt]
   refine Qa ?_
   simp only [go_sem, how]
   refine Qd rfl ?_ ?_
   ·intro hc2
    have hv : ns.getD i 0 = v := by simpa using hc2
    refine Qa ?_
    simp only [go_sem]
    refine Qj ?_
    simp only [go_sem, X.next, Qz, Qac, Qyv, List.mem_singleton, forall_eq, RS.op]
    have : ns.contains v = true := List.contains_iff_mem.2 (by rw [← hv, hgd]; exact List.getElem_mem hlt)
    rw [this] at hK; exact hK
   ·intro hc2
    have hv : ¬ ns.getD i 0 = v := by simpa using hc2
    refine Qf ?_
    simp only [go_sem]
    refine Qq ?_
    simp only [go_sem, how, X.next]
    refine ⟨Qo (by omega) (by omega), ns.length - (i + 1), by omega, i + 1, rfl, by omega, ?_, rfl⟩
    rw [List.take_succ_eq_append_getElem hlt]
    simp only [List.mem_append, List.mem_singleton, not_or]
    exact ⟨hno, fun h => hv (by rw [hgd]; exact h.symm)⟩
  ·intro hc
   have hge : ns.length ≤ i := by simpa using hc
   rw [List.take_of_length_le hge] at hno
   refine Qt ?_
   simp only [go_sem, X.next]
   refine Qa ?_
   simp only [go_sem]
   refine Qj ?_
   simp only [go_sem, Qz, Qac, Qyv, List.mem_singleton, forall_eq, RS.op]
   have : ns.contains v = false := by
    cases hcc : ns.contains v with
    | false => rfl
    | true => exact absurd (List.contains_iff_mem.1 hcc) hno
   rw [this] at hK; exact hK
theorem Qa80 {a b : C} {ns ms : List Int} (hs : Slc H 1 (Qe ns) a) (how : a.isOw = false) (hs2 : Slc H 1 (Qe ms) b) (how2 : b.isOw = false) (hK : K (.c (.bool (decide (ns = ms)))) H) :
  Qp prog Qoe [.c a, .c b] H K := by
 refine Qb Qat Qar1 ?_
 have hok := eq_true hs.ok
 have hlen := hs.len
 have hsz := hs.sz
 have hrw := hs.rows
 have hok2 := eq_true hs2.ok
 have hlen2 := hs2.len
 have hsz2 := hs2.sz
 have hrw2 := hs2.rows
 refine Qa ?_
 simp only [go_sem, how, how2]
 refine Q4 ?_
 refine Qa ?_
 simp only [go_sem, how, how2, hok, hlen, hok2, hlen2, Qg]
 intro hl hl2
 simp only [LIM] at hl hl2
 have hmn : (if (ms.length : Int) < ns.length then (ms.length : Int) else ns.length) = ((min ns.length ms.length : Nat) : Int) := by split <;> omega
 simp only [hmn]
 refine Qh (Qc (Qu (fun m e1 H1 => ∃ (i : Nat), m = min ns.length ms.length - i ∧ i ≤ min ns.length ms.length ∧ H1 = H ∧ ns.take i = ms.take i ∧ e1 = [(0, .c a), (1, .c b), (10, .c (.int .i64 (min ns.length ms.length : Nat))), (11, .c (.int .i64 i))]) (min ns.length ms.length) ?_ ?_))
 ·exact ⟨0, by omega, by omega, rfl, by simp, rfl⟩
 ·rintro m e1 H1 ⟨i, hm, hi, rfl, hsame, rfl⟩
  refine Qa ?_
  simp only [go_sem, how, how2]
  refine Qh (Qd rfl ?_ ?_)
  ·intro hc
   have hlt : i < min ns.length ms.length := by
    have := of_decide_eq_true hc
    omega
   have h1 : i < ns.length := by omega
   have h2 : i < ms.length := by omega
   have hgd : ns.getD i 0 = ns[i] := by simp [List.getD_eq_getElem?_getD, h1]
   have hgd2 : ms.getD i 0 = ms[i] := by simp [List.getD_eq_getElem?_getD, h2]
   refine Qf ?_
   simp only [go_sem]
   refine Qh (Qc ?_)
   refine Qa ?_
   simp only [go_sem, how, how2]
   refine Qan ?_
   simp only [go_sem, how, how2, hok, hlen, hsz, hrw, hok2, hlen2, hsz2, hrw2, h1, h2, Qg, Q6 _ _ h1, Q6 _ _ h2]
   refine Qd rfl ?_ ?_
   ·intro hc2
    refine Qa ?_
    simp only [go_sem]
    refine Qj ?_
    simp only [go_sem, X.next, Qz, Qac, Qu2, List.mem_singleton, forall_eq, RS.op]
    have hne : ns ≠ ms := by
     rintro rfl
     simp at hc2
    rw [decide_eq_false hne] at hK; exact hK
   ·intro hc2
    have hv : ns.getD i 0 = ms.getD i 0 := by simpa using hc2
    refine Qf ?_
    simp only [go_sem]
    refine Qq ?_
    simp only [go_sem, how, how2, X.next]
    refine ⟨Qo (by omega) (by omega), min ns.length ms.length - (i + 1), by omega, i + 1, rfl, by omega, ?_, rfl⟩
    rw [List.take_succ_eq_append_getElem h1, List.take_succ_eq_append_getElem h2, hsame, ← hgd, ← hgd2, hv]
  ·intro hc
   have hge : min ns.length ms.length ≤ i := by
    have := of_decide_eq_false hc
    omega
   refine Qt ?_
   simp only [go_sem, X.next]
   refine Qa ?_
   simp only [go_sem, how, how2, hok, hlen, hok2, hlen2, Qg]
   intro _ _
   refine Qj ?_
   simp only [go_sem, Qz, Qac, Qu2, List.mem_singleton, forall_eq, RS.op]
   have : decide ((ns.length : Int) = ms.length) = decide (ns = ms) := by
    by_cases he : ns = ms
    ·simp [he]
    ·have : ¬ (ns.length : Int) = ms.length := by
      intro hh
      refine he ?_
      have hh' : ns.length = ms.length := by omega
      rw [List.take_of_length_le (by omega), List.take_of_length_le (by omega)] at hsame
      exact hsame
     simp [he, this]
   rw [this]; exact hK
end Go.AE.Y

namespace Go.AE.Y
attribute [local instance] Classical.propDecidable
variable {g : Nat → List Nat} {n h : Nat}
theorem Qa9p {a b : Nat} (h : domB g a b = true) : rchB g (-1) a = true ∧ rchB g (-1) b = true := by
 simp only [domB, Bool.and_eq_true] at h
 exact ⟨h.1.1, h.1.2⟩
structure BWk (n : Nat) (g : Nat → List Nat) (h : Nat) (O W : List Nat) : Prop where
 asc : O.Pairwise (· < ·)
 o : ∀ x ∈ O, Bdy n g h x
 w : ∀ x ∈ W, rchB g (-1) x = true → Bdy n g h x
 c : ∀ x ∈ O, x ≠ h → ∀ p ∈ Qajv n g x, rchB g (-1) p = true → p ∈ O ∨ p ∈ W
 l : ∀ p ∈ Qajv n g h, domB g h p = true → p ∈ O ∨ p ∈ W
 h : h ∈ O
 r : ∀ x ∈ W, x < n
variable {O W : List Nat} {b : Nat}
theorem BWk.init : BWk n g h [h] ((Qajv n g h).filter (domB g h)) := by
 refine ⟨by simp, fun x hx => ?_, fun x hx _ => ?_, fun x hx hne => ?_, fun p hp hd => .inr (List.mem_filter.2 ⟨hp, hd⟩), by simp, fun x hx => (predL_mem.1 (List.mem_filter.1 hx).1).1⟩
 ·simp at hx; subst hx; exact .head
 ·exact .back (List.mem_filter.1 hx).1 (List.mem_filter.1 hx).2
 ·simp at hx; exact absurd hx hne
theorem BWk.skip (k : BWk n g h O (b :: W)) (hb : b ∈ O ∨ rchB g (-1) b = false) : BWk n g h O W := by
 refine ⟨k.asc, k.o, fun x hx => k.w x (List.mem_cons_of_mem _ hx), fun x hx hne p hp hi => ?_, fun p hp hd => ?_, k.h, fun x hx => k.r x (List.mem_cons_of_mem _ hx)⟩
 ·rcases k.c x hx hne p hp hi with h1 | h1
  ·exact .inl h1
  ·rcases List.mem_cons.1 h1 with rfl | h1
   ·rcases hb with hb | hb
    ·exact .inl hb
    ·rw [hb] at hi; simp at hi
   ·exact .inr h1
 ·rcases k.l p hp hd with h1 | h1
  ·exact .inl h1
  ·rcases List.mem_cons.1 h1 with rfl | h1
   ·rcases hb with hb | hb
    ·exact .inl hb
    ·rw [(Qa9p hd).2] at hb; simp at hb
   ·exact .inr h1
theorem BWk.go {O' : List Nat} (k : BWk n g h O (b :: W)) (hbO : b ∉ O) (hi : rchB g (-1) b = true) (h1 : O'.Pairwise (· < ·)) (h2 : ∀ x, x ∈ O' ↔ x = b ∨ x ∈ O) : BWk n g h O' (W ++ Qajv n g b) := by
 have hB := k.w b List.mem_cons_self hi
 have hbh : b ≠ h := fun e => hbO (e ▸ k.h)
 refine ⟨h1, fun x hx => ?_, fun x hx hix => ?_, fun x hx hne p hp hip => ?_, fun p hp hd => ?_, (h2 h).2 (.inr k.h), fun x hx => ?_⟩
 ·rcases (h2 x).1 hx with rfl | hx
  ·exact hB
  ·exact k.o x hx
 ·rcases List.mem_append.1 hx with hx | hx
  ·exact k.w x (List.mem_cons_of_mem _ hx) hix
  ·exact .more hB hbh hx hix
 ·rcases (h2 x).1 hx with rfl | hx
  ·exact .inr (List.mem_append_right _ hp)
  ·rcases k.c x hx hne p hp hip with h3 | h3
   ·exact .inl ((h2 p).2 (.inr h3))
   ·rcases List.mem_cons.1 h3 with rfl | h3
    ·exact .inl ((h2 p).2 (.inl rfl))
    ·exact .inr (List.mem_append_left _ h3)
 ·rcases k.l p hp hd with h3 | h3
  ·exact .inl ((h2 p).2 (.inr h3))
  ·rcases List.mem_cons.1 h3 with rfl | h3
   ·exact .inl ((h2 p).2 (.inl rfl))
   ·exact .inr (List.mem_append_left _ h3)
 ·rcases List.mem_append.1 hx with hx | hx
  ·exact k.r x (List.mem_cons_of_mem _ hx)
  ·exact (predL_mem.1 hx).1
theorem BWk.fin (hh : h < n) (k : BWk n g h O []) : O = Qa5y n g h := by
 refine Qaxi k.asc Qa14 fun x => ?_
 rw [Qa15 hh]
 refine ⟨k.o x, fun hb => ?_⟩
 induction hb with
 | head => exact k.h
 | back h1 h2 => exact (k.l _ h1 h2).resolve_right (by simp)
 | more h1 h2 h3 h4 ih => exact (k.c _ ih h2 _ h3 h4).resolve_right (by simp)
theorem BWk.len (k : BWk n g h O W) (hh : h < n) : O.length ≤ n := by
 have e := Qa1z (n := n) (p := fun x => decide (x ∈ O)) k.asc fun x => ⟨fun hx => ⟨(k.o x hx).lt hh, by simpa using hx⟩, fun hx => by simpa using hx.2⟩
 have := List.length_filter_le (fun x => decide (x ∈ O)) (List.range n)
 rw [← e] at this
 simpa using this
end Go.AE.Y

namespace Go.AE.Y
open Go.Proofs.Tryz
variable {H H0 : Heap} {K : V → Heap → Prop}
structure GF (rows : List (List C)) (nx : Nat → List Int) : Prop where
 no : ∀ r ∈ rows, noOw r = true
 x : ∀ i, i < rows.length → ∃ a1 a2 a3 a4 fl, rows.getD i [] = [a1, a2, a3, a4, .sl fl 1 (Qe (nx i))]
 n : rows.length ≤ 10000
 m : ∀ i, i < rows.length → (nx i).length ≤ 1000
noncomputable def inL (n : Nat) (g : Nat → List Nat) : List Bool := (List.range n).map (rchB g (-1))
noncomputable def Qa84 (n : Nat) (g : Nat → List Nat) (a : Nat) : List Bool := (List.range n).map (domB g a)
noncomputable def ovOf (n : Nat) (g : Nat → List Nat) (k : Nat) : List (List C) := (List.range k).map fun a => [.sl false 1 (Qv (Qa84 n g a))]
noncomputable def domC (p rg : Int) (fl : Bool) (rows : List (List C)) (g : Nat → List Nat) : List C :=
 [.int .i64 p, .int .i64 rg, .sl fl 5 rows, .sl false 1 (ovOf rows.length g rows.length), .sl false 1 (Qv (inL rows.length g))]
noncomputable def ysL (n : Nat) (g : Nat → List Nat) (ys : List Nat) : List (Nat × Obj) := ys.zipIdx.map fun x => (x.1, .vec 1 (Qv (Qa84 n g x.2)))
def ysR (n : Nat) (ys : List Nat) : List (List C) := ys.map fun y => [.vsl y 1 0 n]
end Go.AE.Y

namespace Go.AE.Y
open Go.Proofs.Tryz
variable {H H0 : Heap} {K : V → Heap → Prop}
end Go.AE.Y

namespace Go.AE.Y
open Go.Proofs.Tryz
variable {H H0 : Heap} {K : V → Heap → Prop}
end Go.AE.Y

namespace Go.AE.Y
variable {P : Program} {H : Heap} {g : G} {w : World}
theorem Qa8t (hs : Sat H g w) (os : Array Go.Obj) : ∃ g', Stp H g w H g' (Go.Sort.grow w os) := by
 obtain ⟨l⟩ := os
 induction l generalizing g w with
 | nil => exact ⟨g, by rw [Go.Sort.grow_empty]; exact .refl hs⟩
 | cons x l ih =>
  have h1 := Q0d hs x
  obtain ⟨g', h2⟩ := ih h1.sat
  refine ⟨g', ?_⟩
  have e : Go.Sort.grow w ⟨x :: l⟩ = Go.Sort.grow (w.alloc x) ⟨l⟩ := by
   rw [Go.Sort.alloc_eq_grow, Go.Sort.grow_grow]
   congr 1
   simp
  rw [e]; exact h1.trans h2
theorem Qa3u {b off : Nat} {cs : Array Value} {T : TypeId} {d : Array Int} (h : w.heap[b]? = some (.cells cs T (0, 0))) :
  Go.Sort.putRow (Value.int .i64) w b off d = World.putCells w b (Go.Sort.putCells (Value.int .i64) off d cs) T := by
 simp only [Go.Sort.putRow, Go.Sort.mapBlock, World.putCells]
 congr 1
 apply Array.ext_getElem?
 intro i
 simp only [Array.getElem?_modify]
 by_cases hi : b = i
 ·subst hi
  have hlt : b < w.heap.size := Qkc h
  rw [if_pos rfl, h]
  simp [hlt, Go.Sort.onCells]
 ·rw [if_neg hi, Array.getElem?_setIfInBounds_ne hi]
theorem Qayo {f : Nat} (hf : fnOk P f = true)
  (hc : ∀ (blk off cap : Nat) (zs : List Int) (w : World), Go.Sort.Holds (Value.int .i64) w blk off zs.toArray → blk < w.heap.size → zs.length < 4611686018427387904 →
   Calls P f #[.slice (some ⟨blk, off, none⟩) zs.length cap] w fun e w' =>
    e = .returned (.tuple #[]) ∧ ∃ n os, w' = Go.Sort.grow (Go.Sort.putRow (Value.int .i64) (Go.Sort.ahead w n) blk off (zs.mergeSort fun x y => decide (x ≤ y)).toArray) os)
  {z n : Nat} {ns : List Int} {K : V → Heap → Prop} (hz : H z = .vec 1 (Qe ns)) (hn : n = ns.length) (h0 : 0 < n)
  (hK : ∀ H', Upd H H' [(z, .vec 1 (Qe (ns.mergeSort fun x y => decide (x ≤ y))))] → K (.tup []) H') : Qp P f [.c (.vsl z 1 0 n)] H K := by
 refine ⟨hf, fun g w vs hs hl hv => ?_⟩
 obtain ⟨v, rfl⟩ : ∃ v, vs = [v] := by
  match vs, hl with
  | [v], _ => exact ⟨v, rfl⟩
 have hr := hv 0 _ v rfl rfl
 have ho := hs.objs z
 rw [hz] at ho
 cases hr with
 | c _ _ hr =>
  cases hr with
  | vslnil => omega
  | vsl l sz st n cap b base T m hio hnc hsh hm =>
   obtain ⟨b', base', T', cs, val, hio', hown, hblk, hsz, hlim, hrow, hcell, hrep⟩ := SatVec.of ho hio
   rw [hio] at hio'
   simp only [Option.some.injEq, Prod.mk.injEq, true_and] at hio'
   obtain ⟨rfl, rfl⟩ := hio'
   have hlt := Qkc hblk
   rw [Qg] at hsz hlim
   have hel : ∀ j (hj : j < ns.length), cs[base + j]? = some (.int .i64 ns[j]) := by
    intro j hj
    have h1 : (Qe ns)[j]? = some [.int .i64 ns[j]] := by simp [Qe, hj]
    have h2 := hcell j _ 0 _ h1 rfl
    have h3 := hrep j _ 0 _ h1 rfl
    have h4 : val j 0 = .int .i64 ns[j] := by
     exact (fun vv (h : RepC w g (.int .i64 ns[j]) vv) => by cases h; rfl : ∀ vv, RepC w g (.int .i64 ns[j]) vv → vv = .int .i64 ns[j]) _ (h3.toC rfl)
    simpa [h4] using h2
   have hH : Go.Sort.Holds (Value.int .i64) w b base ns.toArray := by
    intro j hj
    have hj' : j < ns.length := by simpa using hj
    refine ⟨?_, ?_⟩
    ·rw [Qcc hblk, hel j hj']
     simp [getElem!_pos, hj']
    ·simp [World.frozen?, hblk]
   subst hn
   simp only [Nat.zero_mul, Nat.add_zero]
   refine (hc b base cap ns w hH hlt (by simp only [LIM] at hlim; omega)).mono fun e w' => ?_
   rintro ⟨rfl, nn, os, rfl⟩
   have s1 : Stp H g w H g (Go.Sort.ahead w nn) := Qaqt hs (w.drawn + nn)
   have hblk1 : (Go.Sort.ahead w nn).heap[b]? = some (.cells cs T' (0, 0)) := hblk
   have hel2 : ∀ i (c : C), ((Qe (ns.mergeSort fun x y => decide (x ≤ y)))[i]? = some [c]) → ∃ x : Int, c = .int .i64 x ∧ (Go.Sort.putCells (Value.int .i64) base (ns.mergeSort fun x y => decide (x ≤ y)).toArray cs)[base + i]? = some (.int .i64 x) := by
    intro i c hi
    have hlen : (ns.mergeSort fun x y => decide (x ≤ y)).length = ns.length := List.length_mergeSort _
    have hil : i < (ns.mergeSort fun x y => decide (x ≤ y)).length := by
     rcases Nat.lt_or_ge i (ns.mergeSort fun x y => decide (x ≤ y)).length with h | h
     ·exact h
     ·rw [List.getElem?_eq_none (by rw [Qg]; exact h)] at hi; simp at hi
    refine ⟨(ns.mergeSort fun x y => decide (x ≤ y))[i], ?_, ?_⟩
    ·simp only [Qe, List.getElem?_map, List.getElem?_eq_getElem hil, Option.map_some, Option.some.injEq, List.cons.injEq, and_true] at hi
     exact hi.symm
    ·simp only [Go.Sort.putCells, Array.getElem?_mapIdx]
     rw [Array.getElem?_eq_getElem (by omega)]
     simp only [Option.map_some, Option.some.injEq]
     rw [if_pos ⟨by omega, by simp only [List.size_toArray]; omega⟩]
     congr 1
     simp [getElem!_pos]
     rw [List.getElem?_eq_getElem hil]; rfl
   have s2 := Qhj s1.sat hown hblk1 (cs' := Go.Sort.putCells (Value.int .i64) base (ns.mergeSort fun x y => decide (x ≤ y)).toArray cs) (by simp [Go.Sort.putCells])
    (.vec 1 (Qe (ns.mergeSort fun x y => decide (x ≤ y)))) (by rw [hz]; simp) (fun hle hb2 => .inr ⟨b, base, T', _, fun i _ => .int .i64 ((ns.mergeSort fun x y => decide (x ≤ y)).getD i 0), hio, hown, hb2, by
      rw [Qg, List.length_mergeSort]; simp [Go.Sort.putCells]; omega, by rw [Qg, List.length_mergeSort]; exact hlim, fun i row hi => by
       simp only [Qe, List.getElem?_map, Option.map_eq_some_iff] at hi; obtain ⟨x, _, rfl⟩ := hi; rfl, fun i row j c hi hj => by
       have hi' := hi
       simp only [Qe, List.getElem?_map, Option.map_eq_some_iff] at hi'
       obtain ⟨y, hy, rfl⟩ := hi'
       have hj0 : j = 0 := by
        rcases Nat.eq_zero_or_pos j with h | h
        ·exact h
        ·rw [List.getElem?_eq_none (by simp; omega)] at hj; simp at hj
       subst hj0
       obtain ⟨x, hx, he⟩ := hel2 i _ hi
       simp only [C.int.injEq, true_and] at hx
       subst hx
       simp only [Nat.mul_one, Nat.add_zero]
       rw [he, List.getD_eq_getElem?_getD, hy]; rfl, fun i row j c hi hj => by
       have hi' := hi
       simp only [Qe, List.getElem?_map, Option.map_eq_some_iff] at hi'
       obtain ⟨y, hy, rfl⟩ := hi'
       have hj0 : j = 0 := by
        rcases Nat.eq_zero_or_pos j with h | h
        ·exact h
        ·rw [List.getElem?_eq_none (by simp; omega)] at hj; simp at hj
       subst hj0
       simp at hj; subst hj
       show RepO _ _ _ _ _ (Value.int .i64 ((ns.mergeSort fun x y => decide (x ≤ y)).getD i 0))
       rw [List.getD_eq_getElem?_getD, hy]
       exact .plain _ _ _ _ (.int _ _)⟩) (by simp)
   rw [← Qa3u hblk1] at s2
   obtain ⟨g', s3⟩ := Qa8t s2.sat os
   refine ⟨.tuple #[], .tup [], _, g', rfl, hK _ ⟨by simp [Heap.set_same], fun m _ hm => Heap.set_other _ _ (by simpa using hm)⟩, s1.trans (s2.trans s3), ?_⟩
   exact .tup [] [] rfl (by simp)
theorem Qa1y {f : Nat} (hf : fnOk P f = true) {k : IntKind} {x r : Int} (hc : ∀ w, Calls P f #[.int k x] w fun e w' => e = .returned (.int .i64 r) ∧ w' = w) {K : V → Heap → Prop} (hK : K (.c (.int .i64 r)) H) :
  Qp P f [.c (.int k x)] H K := by
 refine ⟨hf, fun g w vs hs hl hv => ?_⟩
 obtain ⟨v, rfl⟩ : ∃ v, vs = [v] := by
  match vs, hl with
  | [v], _ => exact ⟨v, rfl⟩
 have hr := hv 0 _ v rfl rfl
 cases hr with
 | c _ _ hr =>
  cases hr
  refine (hc w).mono fun e w' => ?_
  rintro ⟨rfl, rfl⟩
  exact ⟨_, _, H, g, rfl, hK, .refl hs, .c _ _ (.int _ _)⟩
end Go.AE.Y

namespace Go.AE.Y
structure Cmp (ns R : List Int) (k j : Nat) : Prop where
 len : R.length = ns.length
 kj : k < j
 jn : j ≤ ns.length
 asc : (R.take k).Pairwise (· < ·)
 mem : ∀ x, x ∈ R.take k ↔ x ∈ ns.take j
 same : ∀ i, j ≤ i + 1 → R.getD i 0 = ns.getD i 0
variable {ns R : List Int} {k j : Nat}
theorem take_mem {l : List Int} {j : Nat} {x : Int} : x ∈ l.take j ↔ ∃ i, i < j ∧ i < l.length ∧ l.getD i 0 = x := by
 constructor
 ·intro h
  obtain ⟨i, hi, rfl⟩ := List.mem_iff_getElem.1 h
  rw [List.length_take] at hi
  refine ⟨i, by omega, by omega, ?_⟩
  rw [List.getElem_take, List.getD_eq_getElem?_getD, List.getElem?_eq_getElem (by omega)]; rfl
 ·rintro ⟨i, h1, h2, rfl⟩
  rw [List.getD_eq_getElem?_getD, List.getElem?_eq_getElem h2]
  exact List.mem_iff_getElem.2 ⟨i, by rw [List.length_take]; omega, by rw [List.getElem_take]; rfl⟩
theorem Qen {ns : List Int} (h : ns.Pairwise (· ≤ ·)) {a b : Nat} (hab : a ≤ b) (hb : b < ns.length) : ns.getD a 0 ≤ ns.getD b 0 := by
 rcases Nat.lt_or_ge a b with h1 | h1
 ·have := List.pairwise_iff_getElem.1 h a b (by omega) hb h1
  simpa [List.getD_eq_getElem?_getD, hb, show a < ns.length by omega] using this
 ·have : a = b := by omega
  subst this; exact Int.le_refl _
theorem Cmp.start (hs : ns.Pairwise (· ≤ ·)) (hk0 : 0 < k) (hk : k < ns.length) (hne : ∀ i, 0 < i → i < k → ns.getD i 0 ≠ ns.getD (i - 1) 0) (he : ns.getD k 0 = ns.getD (k - 1) 0) : Cmp ns ns k (k + 1) := by
 refine ⟨rfl, by omega, by omega, ?_, fun x => ?_, fun i _ => rfl⟩
 ·rw [List.pairwise_iff_getElem]
  intro a b ha hb hab
  rw [List.length_take] at ha hb
  rw [List.getElem_take, List.getElem_take]
  have h1 := Qen hs (a := a) (b := b - 1) (by omega) (by omega)
  have h2 := Qen hs (a := b - 1) (b := b) (by omega) (by omega)
  have h3 := hne b (by omega) (by omega)
  have e1 : ns.getD a 0 = ns[a] := by simp [List.getD_eq_getElem?_getD, show a < ns.length by omega]
  have e2 : ns.getD b 0 = ns[b] := by simp [List.getD_eq_getElem?_getD, show b < ns.length by omega]
  rw [e1] at h1; rw [e2] at h2 h3
  omega
 ·rw [take_mem, take_mem]
  constructor
  ·rintro ⟨i, h1, h2, h3⟩; exact ⟨i, by omega, h2, h3⟩
  ·rintro ⟨i, h1, h2, h3⟩
   by_cases h : i < k
   ·exact ⟨i, h, h2, h3⟩
   ·have : i = k := by omega
    subst this
    exact ⟨i - 1, by omega, by omega, by rw [← he]; exact h3⟩
theorem Cmp.eq (c : Cmp ns R k j) (hj : j < ns.length) (he : ns.getD j 0 = ns.getD (j - 1) 0) : Cmp ns R k (j + 1) := by
 have := c.kj
 refine ⟨c.len, by omega, by omega, c.asc, fun x => ?_, fun i hi => c.same i (by omega)⟩
 rw [c.mem, take_mem, take_mem]
 constructor
 ·rintro ⟨i, h1, h2, h3⟩; exact ⟨i, by omega, h2, h3⟩
 ·rintro ⟨i, h1, h2, h3⟩
  by_cases h : i < j
  ·exact ⟨i, h, h2, h3⟩
  ·have : i = j := by omega
   subst this
   exact ⟨i - 1, by omega, by omega, by rw [← he]; exact h3⟩
theorem Cmp.ne (c : Cmp ns R k j) (hs : ns.Pairwise (· ≤ ·)) (hj : j < ns.length) (he : ns.getD j 0 ≠ ns.getD (j - 1) 0) : Cmp ns (R.set k (ns.getD j 0)) (k + 1) (j + 1) := by
 have hkj := c.kj
 have hkl : k < R.length := by rw [c.len]; omega
 have htk : (R.set k (ns.getD j 0)).take (k + 1) = R.take k ++ [ns.getD j 0] := by
  rw [List.take_succ_eq_append_getElem (by rw [List.length_set]; exact hkl), List.getElem_set_self]
  congr 1
  rw [List.take_set_of_le (Nat.le_refl _)]
 refine ⟨by rw [List.length_set]; exact c.len, by omega, by omega, ?_, fun x => ?_, fun i hi => ?_⟩
 ·rw [htk, List.pairwise_append]
  refine ⟨c.asc, by simp, fun a ha b hb => ?_⟩
  simp at hb; subst hb
  obtain ⟨i, h1, h2, rfl⟩ := take_mem.1 ((c.mem a).1 ha)
  have h3 := Qen hs (a := i) (b := j - 1) (by omega) (by omega)
  have h4 := Qen hs (a := j - 1) (b := j) (by omega) hj
  simp only [List.getD_eq_getElem?_getD] at *
  omega
 ·rw [htk, List.mem_append, c.mem, take_mem, take_mem]
  simp only [List.mem_singleton]
  constructor
  ·rintro (⟨i, h1, h2, h3⟩ | rfl)
   ·exact ⟨i, by omega, h2, h3⟩
   ·exact ⟨j, by omega, hj, rfl⟩
  ·rintro ⟨i, h1, h2, h3⟩
   by_cases h : i < j
   ·exact .inl ⟨i, h, h2, h3⟩
   ·have : i = j := by omega
    subst this; exact .inr h3.symm
 ·have : k ≠ i := by omega
  rw [← c.same i (by omega)]
  simp [List.getD_eq_getElem?_getD, this]
theorem Qami (hs : ns.Pairwise (· ≤ ·)) (hne : ∀ i, 0 < i → i < ns.length → ns.getD i 0 ≠ ns.getD (i - 1) 0) : ns.Pairwise (· < ·) := by
 rw [List.pairwise_iff_getElem]
 intro a b ha hb hab
 have h1 := Qen hs (a := a) (b := b - 1) (by omega) (by omega)
 have h2 := Qen hs (a := b - 1) (b := b) (by omega) (by omega)
 have h3 := hne b (by omega) (by omega)
 have e1 : ns.getD a 0 = ns[a] := by simp [List.getD_eq_getElem?_getD, ha]
 have e2 : ns.getD b 0 = ns[b] := by simp [List.getD_eq_getElem?_getD, hb]
 rw [e1] at h1; rw [e2] at h2 h3
 omega
def srt (ns : List Int) : List Int := ns.mergeSort fun x y => decide (x ≤ y)
theorem Qaxc (ns : List Int) : (srt ns).length = ns.length := List.length_mergeSort _
theorem Qact (ns : List Int) (x : Int) : x ∈ srt ns ↔ x ∈ ns := (List.mergeSort_perm ns _).mem_iff
theorem Qaik (ns : List Int) : (srt ns).Pairwise (· ≤ ·) := by
 have := List.pairwise_mergeSort (le := fun x y : Int => decide (x ≤ y)) (by simp only [decide_eq_true_eq]; omega) (by simp only [Bool.or_eq_true, decide_eq_true_eq]; omega) ns
 exact this.imp (by simp)
theorem Qa5l {ns : List Int} (h : ns.Nodup) : (srt ns).Pairwise (· < ·) := by
 have h1 := Qaik ns
 have h2 : (srt ns).Nodup := (List.mergeSort_perm ns _).nodup_iff.2 h
 exact h1.imp₂ (fun a b hab hne => by omega) h2
end Go.AE.Y

namespace Go.Proofs
open Go.Shelf
def Tryz.lays189_ren : Go.Shelf.Ren := ⟨fun | 189 => 135 | 125 => 168 | 257 => 167 | 128 => 196 | 129 => 197 | 294 => 187 | 295 => 188 | 296 => 189 | 297 => 190 | 298 => 191 | 299 => 192 | 216 => 193 | 300 => 194 | 301 => 195 | 328 => 209 | 329 => 210 | 330 => 211 | 331 => 212 | 332 => 213 | 215 => 214 | 343 => 229 | n => n, fun | 28 => 28 | 3 => 3 | 46 => 152 | 0 => 0 | 51 => 174 | 53 => 176 | 4 => 4 | 183 => 167 | 182 => 166 | 131 => 171 | 5 => 5 | 9 => 9 | 218 => 197 | 222 => 201 | 228 => 221 | 229 => 222 | n => n, fun | n => n⟩
theorem Tryz.lays189 : Go.Proofs.Lays.n189 Tryz.prog Tryz.lays189_ren := {
 mixed := by kernel_rfl
 f125 := Tryz.func168.trans (congrArg some (by kernel_rfl))
 f128 := Tryz.func196.trans (congrArg some (by kernel_rfl))
 f129 := Tryz.func197.trans (congrArg some (by kernel_rfl))
 f189 := Tryz.func135.trans (congrArg some (by kernel_rfl))
 f215 := Tryz.func214.trans (congrArg some (by kernel_rfl))
 f216 := Tryz.func193.trans (congrArg some (by kernel_rfl))
 f257 := Tryz.func167.trans (congrArg some (by kernel_rfl))
 f294 := Tryz.func187.trans (congrArg some (by kernel_rfl))
 f295 := Tryz.func188.trans (congrArg some (by kernel_rfl))
 f296 := Tryz.func189.trans (congrArg some (by kernel_rfl))
 f297 := Tryz.func190.trans (congrArg some (by kernel_rfl))
 f298 := Tryz.func191.trans (congrArg some (by kernel_rfl))
 f299 := Tryz.func192.trans (congrArg some (by kernel_rfl))
 f300 := Tryz.func194.trans (congrArg some (by kernel_rfl))
 f301 := Tryz.func195.trans (congrArg some (by kernel_rfl))
 f328 := Tryz.func209.trans (congrArg some (by kernel_rfl))
 f329 := Tryz.func210.trans (congrArg some (by kernel_rfl))
 f330 := Tryz.func211.trans (congrArg some (by kernel_rfl))
 f331 := Tryz.func212.trans (congrArg some (by kernel_rfl))
 f332 := Tryz.func213.trans (congrArg some (by kernel_rfl))
 f343 := Tryz.func229.trans (congrArg some (by kernel_rfl))
 t0 := Tryz.underlying0
 a0 := Tryz.isAgg0
 z0 := Tryz.sizeOf0
 v0 := Tryz.zeroValue0
 t3 := Tryz.underlying3
 a3 := Tryz.isAgg3
 z3 := Tryz.sizeOf3
 v3 := Tryz.zeroValue3
 t4 := Tryz.underlying4
 a4 := Tryz.isAgg4
 z4 := Tryz.sizeOf4
 v4 := Tryz.zeroValue4
 t5 := Tryz.underlying5
 a5 := Tryz.isAgg5
 z5 := Tryz.sizeOf5
 v5 := Tryz.zeroValue5
 t9 := Tryz.underlying9
 a9 := Tryz.isAgg9
 z9 := Tryz.sizeOf9
 v9 := Tryz.zeroValue9
 t28 := Tryz.underlying28
 a28 := Tryz.isAgg28
 z28 := Tryz.sizeOf28
 v28 := Tryz.zeroValue28
 t46 := Tryz.underlying152
 a46 := Tryz.isAgg152
 z46 := Tryz.sizeOf152
 v46 := Tryz.zeroValue152
 t51 := Tryz.underlying174
 a51 := Tryz.isAgg174
 z51 := Tryz.sizeOf174
 v51 := Tryz.zeroValue174
 t53 := Tryz.underlying176
 a53 := Tryz.isAgg176
 z53 := Tryz.sizeOf176
 v53 := Tryz.zeroValue176
 t131 := Tryz.underlying171
 a131 := Tryz.isAgg171
 z131 := Tryz.sizeOf171
 v131 := Tryz.zeroValue171
 t182 := Tryz.underlying166
 a182 := Tryz.isAgg166
 z182 := Tryz.sizeOf166
 v182 := Tryz.zeroValue166
 t183 := Tryz.underlying167
 a183 := Tryz.isAgg167
 z183 := Tryz.sizeOf167
 v183 := Tryz.zeroValue167
 t218 := Tryz.underlying197
 a218 := Tryz.isAgg197
 z218 := Tryz.sizeOf197
 v218 := Tryz.zeroValue197
 t222 := Tryz.underlying201
 a222 := Tryz.isAgg201
 z222 := Tryz.sizeOf201
 v222 := Tryz.zeroValue201
 t228 := Tryz.underlying221
 a228 := Tryz.isAgg221
 z228 := Tryz.sizeOf221
 v228 := Tryz.zeroValue221
 t229 := Tryz.underlying222
 a229 := Tryz.isAgg222
 z229 := Tryz.sizeOf222
 v229 := Tryz.zeroValue222 }
end Go.Proofs

namespace Go.AE.Y
open Go.Proofs.Tryz
variable {H H0 : Heap} {K : V → Heap → Prop} {E B Lg : List (Nat × Obj)}
theorem Qa12 {x : Int} (h0 : 0 ≤ x) (h1 : x ≤ 18446744073709551615) (hK : ∀ n : Int, K (.c (.int .i64 n)) H) : Qp prog Q5h [.c (.int .u64 x)] H K :=
 Qa1y (by kernel_rfl) (fun w => calls_of_every_depth fun D => Go.Proofs.AnyS.bits_LenIn (ρ := lays189_ren) { lays189 with } D x w h0 h1) (hK _)
theorem Qbb7 {c : C} (how : c.isOw = false) (hK : K (.tup []) H) : Qp prog Qbl [.c c, .c (.int .i64 0), .c (.int .i64 0)] H K := by
 refine Qb Qat Qia ?_
 refine Qa ?_
 simp only [go_sem, how]
 refine ⟨Qo (by omega) (by omega), ?_⟩
 refine Qc (Qu (fun m e1 H1 => H1 = H ∧ e1 = [(0, .c c), (1, .c (.int .i64 0)), (2, .c (.int .i64 0)), (6, .c (.int .i64 1))]) 0 ⟨rfl, rfl⟩ ?_)
 rintro m e1 H1 ⟨rfl, rfl⟩
 refine Q4 ?_
 refine Qa ?_
 simp only [go_sem, how]
 refine Qh (Qd rfl (fun h => by simp at h) fun _ => ?_)
 refine Qt ?_
 simp only [go_sem, X.next, Qz, Qac, Qc0, List.not_mem_nil]
 exact ⟨fun _ => trivial, hK⟩
theorem Qbcj {c : C} {l : Int} (how : c.isOw = false) (hK : K (.tup []) H) : Qp prog Qba [.c c, .c (.int .i64 0), .c (.int .i64 0), .c (.int .i64 l)] H K := by
 refine Qb Qat Quu ?_
 refine Qa ?_
 simp only [go_sem, how]
 refine Qa ?_
 simp only [go_sem, how]
 refine Qc (Qu (fun m e1 H1 => H1 = H ∧ e1 = [(0, .c c), (1, .c (.int .i64 0)), (2, .c (.int .i64 0)), (3, .c (.int .i64 l)), (8, .c (.bool true)), (9, .c (.bool true))]) 0 ⟨rfl, rfl⟩ ?_)
 rintro m e1 H1 ⟨rfl, rfl⟩
 refine Qc ?_
 refine Qa ?_
 simp only [go_sem, how]
 refine ⟨Qo (by omega) (by omega), ?_⟩
 refine Q4 ?_
 refine Qa ?_
 simp only [go_sem, how]
 refine Qh (Qd rfl (fun _ => ?_) (fun h => by simp at h))
 refine Qa ?_
 simp only [go_sem, how]
 refine Qbb7 how ?_
 refine Qj ?_
 simp only [go_sem, X.next, Qz, Qac, Qgi, List.not_mem_nil]
 exact ⟨fun _ => trivial, hK⟩
theorem Qa9f {c : C} (hok : okSl H c) (hl : lenC c = 0) (how : c.isOw = false) (hK : K (.tup []) H) : Qp prog Qiy [.c c] H K := by
 have hok := eq_true hok
 refine Qb Qat Qa3n ?_
 refine Qa ?_
 simp only [go_sem, how, hok, hl]
 have e0 : ((0 : Nat) : Int) = 0 := rfl
 refine Qq ?_
 simp only [go_sem, how, e0]
 refine ⟨⟨by decide, by decide⟩, ?_⟩
 refine Qa12 (by omega) (by omega) fun n => ?_
 simp only [go_sem, how, Q2n]
 refine Qbcj how ?_
 simp only [go_sem, Qz, Qac, Qanp, List.not_mem_nil]
 exact ⟨fun _ => trivial, hK⟩
theorem Qa83 {c : C} {ns : List Int} (kn : Kn H0 H E (B ++ Lg)) (hgr : Gr Lg 1 (Qe ns) c)
  (hK : ∀ Lg' H', Gr Lg' 1 (Qe (srt ns)) c → Kn H0 H' E (B ++ Lg') → K (.tup []) H') : Qp prog Qiy [.c c] H K := by
 by_cases h0 : ns = []
 ·subst h0
  refine Qa9f (hgr.okSl kn) (by rw [hgr.lenC]; rfl) hgr.isOw (hK Lg H ?_ kn)
  have : srt [] = [] := by simp [srt]
  rw [this]; exact hgr
 ·rcases hgr with ⟨_, h, _⟩ | ⟨y, rfl, rfl⟩
  ·cases ns with
   | nil => exact absurd rfl h0
   | cons a b => simp [Qe] at h
  ·have hy := kn.l B.length (l := y) (o := .vec 1 (Qe ns)) (by simp)
   have hpos : 0 < ns.length := List.length_pos_iff.2 h0
   refine Qayo (by kernel_rfl) (fun blk off cap zs w h1 h2 h3 => Go.Proofs.Any.slices_Sort_int lays189 blk off cap zs w h1 h2 h3) hy (by rw [Qg]) (by rw [Qg]; exact hpos) fun H' hu => ?_
   refine hK [(y, .vec 1 (Qe (srt ns)))] H' (.inr ⟨y, by rw [Qg, Qg, Qaxc], rfl⟩) ?_
   have := kn.callL B.length (l := y) (o := .vec 1 (Qe ns)) (by simp) hu (by simp)
   simpa [srt] using this
def Qai (ks : List Nat) : List (C × V) := ks.map fun k : Nat => (.int .i64 (k : Int), .c (.bool true))
theorem Qgc (ks : List Nat) : (Qai ks).length = ks.length := by simp [Qai]
theorem Qcf (ks : List Nat) (n : Int) : Qsj 0 (.int .i64 n) (Qai ks) = True := by
 refine eq_true ?_
 simp only [Qsj, Qai, List.mem_map]
 rintro e ⟨k, _, rfl⟩
 exact ⟨k, rfl⟩
theorem Q5f (ks : List Nat) (b : Nat) : (Qum (.int .i64 (b : Int)) (Qai ks)).getD (.c (.bool false)) = .c (.bool (decide (b ∈ ks))) := by
 induction ks with
 | nil => simp [Qai, Qum]
 | cons k ks ih =>
  simp only [Qai, List.map_cons, Qum, Qdt] at ih ⊢
  by_cases h : b = k
  ·subst h; simp
  ·have : ¬ (b : Int) = (k : Int) := by omega
   simp only [this, decide_false, Bool.false_eq_true, if_false]
   rw [ih]; simp [h]
theorem Qa1s (ks : List Nat) (b : Nat) (h : b ∉ ks) : updE (.int .i64 (b : Int)) (.c (.bool true)) (Qai ks) = Qai (ks ++ [b]) := by
 induction ks with
 | nil => simp [Qai, updE]
 | cons k ks ih =>
  simp only [List.mem_cons, not_or] at h
  have hk : ¬ (b : Int) = (k : Int) := by omega
  have ih := ih h.2
  simp only [Qai, List.map_cons, updE, Qdt, hk, decide_false, Bool.false_eq_true, if_false, List.cons_append] at ih ⊢
  rw [ih]
theorem Qkt {ks : List Nat} (h : ks.Nodup) : (Qai ks).Nodup := by
 rw [Qai, List.Nodup, List.pairwise_map]
 refine List.Pairwise.imp (fun {a b} hab he => ?_) h
 simp only [Prod.mk.injEq, C.int.injEq, true_and, and_true] at he
 exact hab (by omega)
set_option maxHeartbeats 1000000 in
theorem Qama {M ver : Nat} {ks : List Nat} (hM : H M = .map ver (Qai ks)) (hnd : ks.Nodup) (hl : ks.length ≤ LIM)
  (hK : ∀ l H', Upd H H' [] → l.Pairwise (· < ·) → (∀ x, x ∈ l ↔ x ∈ ks) → K (.c (.sl false 1 (Qbp l))) H') :
  Qp prog Qcd [.c (.mp M)] H K := by
 refine Q0 ?_
 refine Qb Qat Qsi ?_
 have hMn : H M ≠ .none := by rw [hM]; simp
 have kn0 := Kn.start1 hM (by simp)
 refine Qa ?_
 simp only [go_sem]
 refine Qa ?_
 simp only [go_sem]
 refine Q4 ?_
 refine Qa ?_
 simp only [go_sem, hM]
 refine ⟨Qkt hnd, fun it hit H1 h1 => ?_⟩
 have kn := kn0.al hit h1
 refine Qh (Qc (Qu (fun m e1 H1 => ∃ (left : List (C × V)) (cur : Option (C × V)) (os : List Nat) (c : C) (Lg : List (Nat × Obj)), m = left.length ∧ os.Nodup ∧ (∀ x, x ∈ os → x ∈ ks) ∧ (∀ x ∈ ks, x ∈ os ∨ (C.int .i64 (x : Int), V.c (.bool true)) ∈ left) ∧
  (∀ y ∈ left, ∃ x ∈ ks, x ∉ os ∧ y = (C.int .i64 (x : Int), V.c (.bool true))) ∧ left.Nodup ∧ os.length + left.length = ks.length ∧
  Gr Lg 1 (Qbp os) c ∧ Kn H H1 [(M, .map ver (Qai ks))] ([(it, .iter (some (M, ver)) left cur)] ++ Lg) ∧ e1 = [(3, .c c), (6, .c (.itr it))]) (Qai ks).length ?_ ?_))
 ·refine ⟨Qai ks, none, [], _, [], rfl, by simp, by simp, fun x hx => .inr ?_, fun y hy => ?_, Qkt hnd, by simp [Qai], .nil 1, kn, rfl⟩
  ·exact List.mem_map.2 ⟨x, hx, rfl⟩
  ·obtain ⟨x, hx, rfl⟩ := List.mem_map.1 hy
   exact ⟨x, hx, by simp, rfl⟩
 ·rintro m e1 H2 ⟨left, cur, os, c, Lg, rfl, hond, hosub, hall, hleft, hlnd, hlen, hgr, kn, rfl⟩
  have hM2 := kn.e 0 rfl
  have hit2 := kn.l 0 rfl
  have hcw := hgr.isOw
  refine Qa ?_
  simp only [go_sem, hcw, hit2, hM2]
  refine ⟨⟨_, rfl⟩, fun hnil => ?_, fun y left' hy hl' hnd' hlen' H3 h3 => ?_⟩
  ·subst hnil
   simp only [go_sem, Qb3, List.getD_cons_zero]
   refine Qh (Qd rfl (fun h => by simp at h) fun _ => ?_)
   refine Qt ?_
   simp only [go_sem, X.next]
   refine Qa ?_
   simp only [go_sem, hcw]
   refine Qa83 kn hgr fun Lg2 H3 hgr kn => ?_
   refine Qa ?_
   simp only [go_sem, hcw]
   refine Qj ?_
   simp only [go_sem, Qz, Qac, Qfa, List.mem_singleton, forall_eq, RS.op, hcw]
   have hmem : ∀ x, x ∈ os ↔ x ∈ ks := fun x => ⟨hosub x, fun hx => (hall x hx).resolve_right (by simp)⟩
   have hni : (os.map Int.ofNat).Nodup := by
    rw [List.Nodup, List.pairwise_map]
    exact List.Pairwise.imp (fun {a b} hab he => hab (Int.ofNat.inj he)) hond
   have hsn := Qa5l hni
   obtain ⟨l, hl1, hl2, hl3⟩ : ∃ l : List Nat, srt (os.map Int.ofNat) = l.map Int.ofNat ∧ l.Pairwise (· < ·) ∧ ∀ x, x ∈ l ↔ x ∈ ks := by
    refine ⟨(srt (os.map Int.ofNat)).map Int.toNat, ?_, ?_, fun x => ?_⟩
    ·rw [List.map_map]
     conv => lhs; rw [← List.map_id (srt (os.map Int.ofNat))]
     refine List.map_congr_left fun x hx => ?_
     rw [Qact] at hx
     obtain ⟨y, _, rfl⟩ := List.mem_map.1 hx
     simp
    ·rw [List.pairwise_map]
     refine List.Pairwise.imp_of_mem (fun {a b} ha hb hab => ?_) hsn
     rw [Qact] at ha hb
     obtain ⟨x, _, rfl⟩ := List.mem_map.1 ha
     obtain ⟨y, _, rfl⟩ := List.mem_map.1 hb
     simpa using hab
    ·rw [← hmem]
     constructor
     ·intro hx
      obtain ⟨y, hy, rfl⟩ := List.mem_map.1 hx
      rw [Qact] at hy
      obtain ⟨z, hz, rfl⟩ := List.mem_map.1 hy
      simpa using hz
     ·intro hx
      exact List.mem_map.2 ⟨(x : Int), by rw [Qact]; exact List.mem_map.2 ⟨x, hx, rfl⟩, by simp⟩
   have := hgr.frz kn (Qx _)
   rw [hl1] at this
   exact ⟨_, .c _ _ this, hK l _ (kn.fin.drop1 hM) hl2 hl3⟩
  ·obtain ⟨k, hk, hkos, rfl⟩ := hleft y hy
   have kn := kn.stL 0 rfl h3
   have hM3 := kn.e 0 rfl
   have hit3 := kn.l 0 rfl
   simp only [go_sem, Qb3, List.getD_cons_zero]
   refine Qh (Qd rfl (fun _ => ?_) (fun h => by simp at h))
   refine Qf ?_
   simp only [go_sem]
   refine Qc ?_
   refine Qa ?_
   simp only [go_sem, hcw, hit3, hM3]
   refine ⟨⟨_, rfl⟩, ?_⟩
   simp only [go_sem, Qdy, List.getD_cons_zero]
   refine Qq ?_
   simp only [go_sem, hcw]
   have hol : os.length + 1 ≤ LIM := by omega
   refine kn.growR (B := [_]) (new := Qbp [k]) hgr (.mk' _ _ _ _) (Qgd _) (by simp only [Qsa, List.length_cons, List.length_nil]; omega) fun t Lg' H4 hgr ht kn => ?_
   simp only [go_sem, Qdz, X.next]
   refine ⟨left'.length, by omega, left', _, os ++ [k], t, Lg', rfl, ?_, fun x hx => ?_, fun x hx => ?_, fun y hy' => ?_, hnd', ?_, ?_, kn, rfl⟩
   ·refine List.nodup_append.2 ⟨hond, by simp, fun a ha b hb => ?_⟩
    simp at hb; subst hb; exact fun e => hkos (e ▸ ha)
   ·rcases List.mem_append.1 hx with hx | hx
    ·exact hosub x hx
    ·simp at hx; subst hx; exact hk
   ·rcases hall x hx with h | h
    ·exact .inl (List.mem_append_left _ h)
    ·by_cases hxk : x = k
     ·subst hxk; exact .inl (List.mem_append_right _ (by simp))
     ·refine .inr ((hl' _).2 ⟨h, fun he => hxk ?_⟩)
      simp only [Prod.mk.injEq, C.int.injEq, true_and, and_true] at he
      omega
   ·obtain ⟨h1, h2⟩ := (hl' y).1 hy'
    obtain ⟨x, hx, hxo, rfl⟩ := hleft y h1
    refine ⟨x, hx, fun hh => ?_, rfl⟩
    rcases List.mem_append.1 hh with hh | hh
    ·exact hxo hh
    ·simp at hh; subst hh; exact h2 rfl
   ·simp; omega
   ·rw [Qah0]; exact hgr
end Go.AE.Y

namespace Go.AE.Y
open Go.Proofs.Tryz
variable {H H0 : Heap} {K : V → Heap → Prop}
structure InB (n : Nat) (g : Nat → List Nat) (S : List Bool) (ks : List Nat) : Prop where
 len : S.length = n
 s : ∀ x, x < n → S.getD x false = (decide (x ∈ ks) || !rchB g (-1) x)
 nd : ks.Nodup
 lt : ∀ x ∈ ks, x < n
 i : ∀ x ∈ ks, rchB g (-1) x = true
 c : ks.length ≤ cnt S
theorem InB.add {n : Nat} {g : Nat → List Nat} {S : List Bool} {ks : List Nat} {b : Nat} (h : InB n g S ks) (hb : b < n) (hbs : b ∉ ks) (hi : rchB g (-1) b = true) : S.getD b false = false ∧ InB n g (S.set b true) (ks ++ [b]) := by
 have hsb : S.getD b false = false := by rw [h.s b hb]; simp [hbs, hi]
 have hbS : b < S.length := by rw [h.len]; exact hb
 refine ⟨hsb, by rw [List.length_set]; exact h.len, fun x hx => ?_, ?_, fun x hx => ?_, fun x hx => ?_, ?_⟩
 ·rw [Q4x]
  by_cases hxb : x = b
  ·subst hxb; simp [hbS]
  ·simp only [hxb, false_and, if_false, List.mem_append, List.mem_singleton, or_false]
   exact h.s x hx
 ·refine List.nodup_append.2 ⟨h.nd, by simp, fun a ha c hc => ?_⟩
  simp at hc; subst hc; exact fun e => hbs (e ▸ ha)
 ·rcases List.mem_append.1 hx with hx | hx
  ·exact h.lt x hx
  ·simp at hx; omega
 ·rcases List.mem_append.1 hx with hx | hx
  ·exact h.i x hx
  ·simp at hx; subst hx; exact hi
 ·rw [Qaq7 hbS hsb, List.length_append]
  have := h.c
  simp; omega
def Qbbr (x5 x6 : Nat) (dc : List C) : List C := [.ptr x5 0, .pp [.pp dc], .ptr x6 0]
def bdE (M x5 x6 ver : Nat) (dc : List C) (ks : List Nat) : List (Nat × Obj) :=
 [(M, .map ver (Qai ks)), (x5, .st [.mp M]), (x6, .st [.fn Qvy (Qbbr x5 x6 dc)])]
end Go.AE.Y

namespace Go.AE.Y
open Go.Proofs.Tryz
variable {H H0 : Heap} {K : V → Heap → Prop} {E B Lg : List (Nat × Obj)}
def Gw (Lg : List (Nat × Obj)) (sz : Nat) (rows : List (List C)) (c : C) : Prop :=
 (c = .sl true sz [] ∧ rows = [] ∧ Lg = []) ∨ ∃ y R, c = .vsl y sz 0 rows.length ∧ Lg = [(y, .vec sz R)] ∧ R.take rows.length = rows
end Go.AE.Y
namespace Go.AE
open Go.AE.Y
open Go.Proofs.Tryz
variable {H H0 : Heap} {K : V → Heap → Prop} {E B Lg : List (Nat × Obj)}
theorem Gr.gw {sz : Nat} {rows : List (List C)} {c : C} (h : Gr Lg sz rows c) : Gw Lg sz rows c := by
 rcases h with h | ⟨y, h1, h2⟩
 ·exact .inl h
 ·exact .inr ⟨y, rows, h1, h2, List.take_length⟩
end Go.AE
namespace Go.AE.Y
open Go.Proofs.Tryz
variable {H H0 : Heap} {K : V → Heap → Prop} {E B Lg : List (Nat × Obj)}
theorem Gw.isOw {sz : Nat} {rows : List (List C)} {c : C} (h : Gw Lg sz rows c) : c.isOw = false := by rcases h with ⟨rfl, _⟩ | ⟨y, R, rfl, _⟩ <;> rfl
theorem Gw.frz {ns : List Int} {c : C} (h : Gw Lg 1 (Qe ns) c) (kn : Kn H0 H E (B ++ Lg)) : FrzC H (un H0) c (.sl false 1 (Qe ns)) := by
 rcases h with ⟨rfl, h2, _⟩ | ⟨y, R, rfl, rfl, hR⟩
 ·rw [h2]; exact FrzR.nil.sl
 ·have hle : (Qe ns).length ≤ R.length := by
   have := congrArg List.length hR
   rw [List.length_take] at this
   omega
  have h := FrzR.same (H := H) (S := un H0) (Qx ns)
  exact .vsl y 1 0 _ R (Qe ns) (Qe ns) (Qlk (kn.loc (y, .vec 1 R) (by simp))) (kn.get (y, .vec 1 R) (by simp)).1 (by omega) (by simpa using hR.symm) h.spec.1 (fun i r r' h1 h2 => (h.spec.2 i r r' h1 h2).spec.1) fun i r r' j c c' h1 h2 h3 h4 => (h.spec.2 i r r' h1 h2).spec.2 j c c' h3 h4
theorem Qain {fl : Bool} {ns : List Int} {L : List (Nat × Obj)} (kn : Kn H0 H E L) (hl : ns.length ≤ LIM) (hK : ∀ t Lg H', Gr Lg 1 (Qe ns) t → t.isOw = false → Kn H0 H' E (L ++ Lg) → K (.c t) H') :
  Qp prog Qee [.c (.sl fl 1 (Qe ns))] H K := by
 refine Qb Qat Qazh ?_
 refine Qa ?_
 simp only [go_sem]
 refine Q4 ?_
 refine Qa ?_
 simp only [go_sem]
 intro b hb
 refine Qh (Qd rfl ?_ ?_)
 ·intro hbt
  have hn := hb hbt
  refine Qa ?_
  simp only [go_sem]
  refine Qj ?_
  simp only [go_sem, Qz, Qac, Qyw, List.mem_singleton, forall_eq, RS.op]
  refine hK _ [] H ?_ rfl (by simpa using kn)
  rw [hn]; exact .nil 1
 ·intro hbf
  refine Qf ?_
  simp only [go_sem]
  refine Qa ?_
  simp only [go_sem, Qg]
  refine ⟨.inl trivial, Qx _, by omega, fun z hz H1 h1 => ?_⟩
  have kn := kn.al hz h1
  simp only [go_sem, Qxv]
  refine Qj ?_
  simp only [go_sem, Qz, Qac, Qyw, List.mem_singleton, forall_eq, RS.op]
  exact hK _ _ H1 (.mk z 1 _ (by rw [Qg]; omega)) rfl kn
theorem Qay5 (ns : List Int) (i : Nat) (x : Int) : (Qe ns).set i [.int .i64 x] = Qe (ns.set i x) := by simp [Qe, List.map_set]
theorem Qarl (ns : List Int) (k : Nat) : (Qe ns).take k = Qe (ns.take k) := by simp [Qe, List.map_take]
set_option maxHeartbeats 2000000 in
theorem Qa1u {c : C} {ns : List Int} (kn : Kn H0 H E (B ++ Lg)) (hgr : Gr Lg 1 (Qe ns) c) (hs : ns.Pairwise (· ≤ ·)) (hL : ns.length ≤ 2 ^ 38)
  (hK : ∀ t Lg' ns' H', Gw Lg' 1 (Qe ns') t → t.isOw = false → Kn H0 H' E (B ++ Lg') → ns'.Pairwise (· < ·) → (∀ x, x ∈ ns' ↔ x ∈ ns) → ns'.length ≤ ns.length → K (.c t) H') :
  Qp prog Qkp [.c c] H K := by
 have how := hgr.isOw
 have hok := eq_true (hgr.okSl kn)
 have hlen := hgr.lenC
 have hrw := hgr.rowsOf kn
 have hsz := hgr.elemSz
 refine Qb Qat Qanc ?_
 refine Qa ?_
 simp only [go_sem, how]
 refine Q4 ?_
 refine Qa ?_
 simp only [go_sem, how, hok, hlen, Qg]
 intro _
 refine Qh (Qd rfl ?_ ?_)
 ·intro hc
  have h2 : ns.length < 2 := by have := of_decide_eq_true hc; omega
  refine Qa ?_
  simp only [go_sem, how]
  refine Qj ?_
  simp only [go_sem, Qz, Qac, Qhn, List.mem_singleton, forall_eq, RS.op, how]
  exact hK c Lg ns H hgr.gw how kn (Qami hs fun i h0 hi => by omega) (fun _ => Iff.rfl) (Nat.le_refl _)
 ·intro hc
  have h2 : 2 ≤ ns.length := by have := of_decide_eq_false hc; omega
  obtain ⟨z, rfl, rfl⟩ : ∃ z, c = .vsl z 1 0 ns.length ∧ Lg = [(z, .vec 1 (Qe ns))] := by
   rcases hgr with ⟨_, h, _⟩ | ⟨y, h1, h2⟩
   ·have : ns.length = 0 := by rw [← Qg, h]; rfl
    omega
   ·exact ⟨y, by rw [h1, Qg], h2⟩
  have hz := kn.l B.length (l := z) (o := .vec 1 (Qe ns)) (by simp)
  refine Qf ?_
  simp only [go_sem]
  refine Q4 ?_
  refine Qa ?_
  simp only [go_sem]
  refine Qh (Qc (Qu (fun m e1 H1 => ∃ (k : Nat), m = ns.length - k ∧ 0 < k ∧ k ≤ ns.length ∧ H1 = H ∧ (∀ i, 0 < i → i < k → ns.getD i 0 ≠ ns.getD (i - 1) 0) ∧ e1 = [(0, .c (.vsl z 1 0 ns.length)), (3, .c (.int .i64 k))]) (ns.length - 1) ?_ ?_))
  ·exact ⟨1, rfl, by omega, by omega, rfl, fun i h0 h1 => by omega, rfl⟩
  ·rintro m e1 H1 ⟨k, hm, hk0, hk, rfl, hne, rfl⟩
   refine Q4 ?_
   refine Qa ?_
   simp only [go_sem, hz, Qg, Nat.zero_add, Nat.le_refl]
   intro hlim
   simp only [LIM] at hlim
   refine Qh (Qd rfl ?_ ?_)
   ·intro hc2
    have hlt : k < ns.length := by simpa using hc2
    have hlt1 : k - 1 < ns.length := by omega
    have e1 : ((k : Int) - 1) = ((k - 1 : Nat) : Int) := by omega
    have htk : (Qe ns).take ns.length = Qe ns := List.take_of_length_le (by rw [Qg]; exact Nat.le_refl _)
    refine Qf ?_
    simp only [go_sem]
    refine Qh (Qc ?_)
    refine Qan ?_
    simp only [go_sem, hz, e1, hlt, hlt1, htk, Qg, Q6 _ _ hlt, Q6 _ _ hlt1, Nat.zero_add, Nat.le_refl]
    refine ⟨Qo (by omega) (by omega), ?_⟩
    refine Qd rfl ?_ ?_
    ·intro hc3
     have heq : ns.getD k 0 = ns.getD (k - 1) 0 := by simpa using hc3
     refine Qa ?_
     simp only [go_sem, hz, hlt, Qg, Nat.zero_add, Nat.le_refl]
     refine ⟨by omega, ?_⟩
     refine Q4 ?_
     refine Qa ?_
     simp only [go_sem]
     refine Qh (Qc (Qu (fun m e1 H2 => ∃ (j kk : Nat) (R : List Int), m = ns.length - j ∧ k < j ∧ j ≤ ns.length ∧ Cmp ns R kk j ∧ Kn H0 H2 E (B ++ [(z, .vec 1 (Qe R))]) ∧
      e1 = [(0, .c (.vsl z 1 0 ns.length)), (3, .c (.int .i64 kk)), (4, .c (.vsl z 1 k (ns.length - k))), (5, .c (.int .i64 ((j - k : Nat) : Int)))]) (ns.length - (k + 1)) ?_ ?_))
     ·refine ⟨k + 1, k, ns, rfl, by omega, by omega, .start hs hk0 hlt hne heq, kn, ?_⟩
      have : k + 1 - k = 1 := by omega
      rw [this]; rfl
     ·rintro m2 e1 H2 ⟨j, kk, R, hm2, hkj, hj, hcm, kn, rfl⟩
      have hz := kn.l B.length (l := z) (o := .vec 1 (Qe R)) (by simp)
      have hRl := hcm.len
      have hkkj := hcm.kj
      refine Q4 ?_
      refine Qa ?_
      have e3 : k + (ns.length - k) = ns.length := by omega
      simp only [go_sem, hz, Qg, hRl, e3, Nat.zero_add, Nat.le_refl]
      intro _
      refine Qh (Qd rfl ?_ ?_)
      ·intro hc4
       have hjl : j < ns.length := by have := of_decide_eq_true hc4; omega
       have hjR : j < R.length := by omega
       have hjR1 : j - 1 < R.length := by omega
       have hjk : j - k < ns.length - k := by omega
       have hjk1 : j - k - 1 < ns.length - k := by omega
       have e4 : (((j - k : Nat) : Int) - 1) = ((j - k - 1 : Nat) : Int) := by omega
       have hr1 : (((Qe R).drop k).take (ns.length - k)).getD (j - k) [] = [.int .i64 (ns.getD j 0)] := by
        rw [← hcm.same j (by omega), ← Q6 _ _ hjR]
        simp only [List.getD_eq_getElem?_getD, List.getElem?_take, List.getElem?_drop]
        rw [if_pos hjk]
        have : k + (j - k) = j := by omega
        rw [this]
       have hr2 : (((Qe R).drop k).take (ns.length - k)).getD (j - k - 1) [] = [.int .i64 (ns.getD (j - 1) 0)] := by
        rw [← hcm.same (j - 1) (by omega), ← Q6 _ _ hjR1]
        simp only [List.getD_eq_getElem?_getD, List.getElem?_take, List.getElem?_drop]
        rw [if_pos hjk1]
        have : k + (j - k - 1) = j - 1 := by omega
        rw [this]
       refine Qf ?_
       simp only [go_sem]
       refine Qdm (fun e2 H3 => ∃ (kk : Nat) (R : List Int), Cmp ns R kk (j + 1) ∧ Kn H0 H3 E (B ++ [(z, .vec 1 (Qe R))]) ∧
        lk 0 e2 = .c (.vsl z 1 0 ns.length) ∧ lk 3 e2 = .c (.int .i64 kk) ∧ lk 4 e2 = .c (.vsl z 1 k (ns.length - k)) ∧ lk 5 e2 = .c (.int .i64 ((j - k : Nat) : Int))) ?_ ?_
       ·intro Q hnr _ _
        refine Qc ?_
        refine Qan ?_
        simp only [go_sem, hz, e3, e4, hr1, hr2, hjk, hjk1, Qg, hRl, Nat.le_refl]
        refine ⟨Qo (by omega) (by omega), ?_⟩
        refine Qd rfl ?_ ?_
        ·intro hc5
         have hne5 : ns.getD j 0 ≠ ns.getD (j - 1) 0 := by simpa using hc5
         have hkkl : kk < ns.length := by omega
         have hkkR : kk < R.length := by omega
         have htk : (Qe R).take ns.length = Qe R := List.take_of_length_le (by rw [Qg]; omega)
         refine Qa ?_
         simp only [go_sem, hz, e3, hr1, hjk, hkkl, htk, Q6 _ _ hkkR, Qay5, Qg, hRl, Nat.zero_add, Nat.le_refl]
         intro H3 h3
         have kn3 := kn.stL B.length (x := z) (o := .vec 1 (Qe R)) (by simp) h3
         have kn : Kn H0 H3 E (B ++ [(z, .vec 1 (Qe (R.set kk (ns.getD j 0))))]) := by simpa using kn3
         refine Qq ?_
         simp only [go_sem]
         refine ⟨Qo (by omega) (by omega), ?_⟩
         exact hnr _ _ ⟨kk + 1, _, hcm.ne hs hjl hne5, kn, rfl, rfl, rfl, rfl⟩
        ·intro hc5
         have heq5 : ns.getD j 0 = ns.getD (j - 1) 0 := by simpa using hc5
         refine Qf ?_
         simp only [go_sem]
         exact hnr _ _ ⟨kk, R, hcm.eq hjl heq5, kn, rfl, rfl, rfl, rfl⟩
       ·rintro e2 H3 ⟨kk, R, hcm, kn, l0, l3, l4, l5⟩
        refine Qq ?_
        simp only [go_sem, X.next, l0, l3, l4, l5]
        refine ⟨Qo (by omega) (by omega), ns.length - (j + 1), by omega, j + 1, kk, R, rfl, by omega, by omega, hcm, kn, ?_⟩
        have : (((j - k : Nat) : Int) + 1) = ((j + 1 - k : Nat) : Int) := by omega
        rw [this]
      ·intro hc4
       have hje : j = ns.length := by have := of_decide_eq_false hc4; omega
       subst hje
       have hkkl : kk ≤ R.length := by omega
       refine Qt ?_
       simp only [go_sem, X.next]
       refine Qa ?_
       have e5 : kk + (ns.length - kk) = ns.length := by omega
       simp only [go_sem, hz, e5, Qg, hRl, Nat.zero_add, Nat.le_refl]
       refine ⟨by omega, fun H3 h3 => ?_⟩
       have kn3 := kn.stL B.length (x := z) (o := .vec 1 (Qe R)) (by simp) h3
       have htk2 : ((Qe R).take kk ++ List.replicate (ns.length - kk) [C.int .i64 0] ++ (Qe R).drop ns.length).take kk = Qe (R.take kk) := by
        rw [List.append_assoc, List.take_append_of_le_length (by rw [List.length_take, Qg]; omega), List.take_take, Nat.min_self, Qarl]
       have hl2 : ns.length ≤ ((Qe R).take kk ++ List.replicate (ns.length - kk) [C.int .i64 0] ++ (Qe R).drop ns.length).length := by
        simp only [List.length_append, List.length_take, List.length_replicate, List.length_drop, Qg]; omega
       generalize (Qe R).take kk ++ List.replicate (ns.length - kk) [C.int .i64 0] ++ (Qe R).drop ns.length = R2 at *
       have kn : Kn H0 H3 E (B ++ [(z, .vec 1 R2)]) := by simpa using kn3
       have hz3 := kn.l B.length (l := z) (o := .vec 1 R2) (by simp)
       refine Qa ?_
       simp only [go_sem, hz3, hl2, Nat.zero_add, Nat.sub_zero]
       refine ⟨by omega, ?_⟩
       refine Qj ?_
       simp only [go_sem, X.next, Qz, Qac, Qhn, List.mem_singleton, forall_eq, RS.op]
       have hrl : (Qe (R.take kk)).length = kk := by rw [Qg, List.length_take]; omega
       refine hK (.vsl z 1 0 kk) _ (R.take kk) H3 (.inr ⟨z, R2, ?_, rfl, ?_⟩) rfl kn hcm.asc (fun x => ?_) (by rw [List.length_take]; omega)
       ·rw [hrl]
       ·rw [hrl]; exact htk2
       ·rw [hcm.mem, List.take_length]
    ·intro hc3
     have hneq : ¬ ns.getD k 0 = ns.getD (k - 1) 0 := by simpa using hc3
     refine Qf ?_
     simp only [go_sem]
     refine Qq ?_
     simp only [go_sem, X.next]
     refine ⟨Qo (by omega) (by omega), ns.length - (k + 1), by omega, k + 1, rfl, by omega, by omega, fun i h0 h1 => ?_, rfl⟩
     by_cases h : i < k
     ·exact hne i h0 h
     ·have : i = k := by omega
      subst this; exact hneq
   ·intro hc2
    have hge : ns.length ≤ k := by simpa using hc2
    refine Qt ?_
    simp only [go_sem, X.next]
    refine Qa ?_
    simp only [go_sem]
    refine Qj ?_
    simp only [go_sem, Qz, Qac, Qhn, List.mem_singleton, forall_eq, RS.op]
    exact hK _ _ ns H1 hgr.gw rfl kn (Qami hs fun i h0 hi => hne i h0 (by omega)) (fun _ => Iff.rfl) (Nat.le_refl _)
theorem Qbch {fl : Bool} {ns : List Int} (hL : ns.length ≤ 2 ^ 38) (hK : ∀ ns' H', Upd H H' [] → ns'.Pairwise (· < ·) → (∀ x, x ∈ ns' ↔ x ∈ ns) → ns'.length ≤ ns.length → K (.c (.sl false 1 (Qe ns'))) H') :
  Qp prog Qyb [.c (.sl fl 1 (Qe ns))] H K := by
 refine Q0 ?_
 refine Qb Qat Qa26 ?_
 refine Qa ?_
 simp only [go_sem]
 refine Qa ?_
 simp only [go_sem]
 refine Qain (Kn.start0 H) (by simp only [LIM]; omega) fun t Lg H1 hgr how kn => ?_
 simp only [go_sem, Q0v]
 refine Qa ?_
 simp only [go_sem, how]
 refine Qa83 kn hgr fun Lg H2 hgr kn => ?_
 refine Qa ?_
 simp only [go_sem, how]
 refine Qa1u kn hgr (Qaik ns) (by rw [Qaxc]; exact hL) fun t2 Lg2 ns' H3 hgw how2 kn h1 h2 h3 => ?_
 simp only [go_sem, Q0w, how2]
 refine Qj ?_
 simp only [go_sem, Qz, Qac, Qanh, List.mem_singleton, forall_eq, RS.op, how2]
 exact ⟨_, .c _ _ (hgw.frz kn), hK ns' _ kn.fin h1 (fun x => by rw [h2, Qact]) (by rw [Qaxc] at h3; exact h3)⟩
end Go.AE.Y

namespace Go.AE.Y
attribute [local go_sem] cond_true cond_false Bool.not_true Bool.not_false
open Go.Proofs.Tryz
variable {H H0 F : Heap} {K : V → Heap → Prop} {E L : List (Nat × Obj)}
theorem Qx5 (ks : List Nat) (b : Nat) : updE (.int .i64 (b : Int)) (.c (.bool true)) (Qai ks) = Qai (addK ks b) := by
 by_cases h : b ∈ ks
 ·rw [addK, if_pos h]
  induction ks with
  | nil => simp at h
  | cons k ks ih =>
   by_cases hk : b = k
   ·subst hk; simp [Qai, updE, Qdt]
   ·have hk' : ¬ (b : Int) = (k : Int) := by omega
    have ih := ih (by simpa [hk] using h)
    simp only [Qai, List.map_cons, updE, Qdt, hk', decide_false, Bool.false_eq_true, if_false] at ih ⊢
    rw [ih]
 ·rw [addK, if_neg h]; exact Qa1s ks b h
theorem Qahi (ks : List Nat) (b : Nat) : delE (.int .i64 (b : Int)) (Qai ks) = Qai (ks.erase b) := by
 induction ks with
 | nil => simp [Qai, delE]
 | cons k ks ih =>
  by_cases hk : b = k
  ·subst hk; simp [Qai, delE, Qdt]
  ·have hk' : ¬ (b : Int) = (k : Int) := by omega
   have hk2 : (k == b) = false := by simp; omega
   simp only [Qai, List.map_cons, delE, Qdt, hk', decide_false, Bool.false_eq_true, if_false, List.erase_cons, hk2] at ih ⊢
   rw [ih]
theorem Qaip {ks : List Nat} {b R : Nat} (h : ∀ x ∈ ks, x < R) (hb : b < R) : ∀ x ∈ addK ks b, x < R := fun x hx => by
 rcases addK_mem.1 hx with h1 | h1
 ·exact h x h1
 ·omega
theorem Qbc2 {M ver R : Nat} {ks : List Nat} {args : List Int} {fl : Bool} (hM : H M = .map ver (Qai ks)) (hnd : ks.Nodup) (hlt : ∀ x ∈ ks, x < R) (hR : R ≤ 300) (hargs : ∀ v ∈ args, 0 ≤ v ∧ v.toNat < R)
  (hK : ∀ ver' ks' H', Upd H H' [(M, .map ver' (Qai ks'))] → ks'.Nodup → (∀ r, r ∈ ks' ↔ r ∈ ks ∨ r ∈ toN args) → K (.c (.mp M)) H') :
  Qp prog Qed [.c (.mp M), .c (.sl fl 1 (Qe args))] H K := by
 refine Q0 ?_
 refine Qb Qat Q2u ?_
 have kn := Kn.start1 hM (by simp)
 refine Qa ?_
 simp only [go_sem]
 refine Q4 ?_
 refine Qa ?_
 simp only [go_sem, Qg]
 intro hal
 simp only [LIM] at hal
 refine Qh (Qc (Qu (fun m e1 H1 => ∃ (i ver1 : Nat) (ks1 : List Nat), m = args.length - i ∧ i ≤ args.length ∧ ks1.Nodup ∧ (∀ x ∈ ks1, x < R) ∧ (∀ r, r ∈ ks1 ↔ r ∈ ks ∨ r ∈ (toN args).take i) ∧ Kn H H1 [(M, .map ver1 (Qai ks1))] [] ∧
  e1 = [(0, .c (.mp M)), (7, .c (.sl fl 1 (Qe args))), (8, .c (.int .i64 args.length)), (9, .c (.int .i64 i))]) args.length ?_ ?_))
 ·exact ⟨0, ver, ks, by omega, by omega, hnd, hlt, by simp, kn, rfl⟩
 ·clear hM kn
  rintro m e1 H1 ⟨i, ver1, ks1, hm, hi, hnd1, hlt1, hmem, kn, rfl⟩
  have hM := kn.e 0 rfl
  have hkl := Qbz hnd1 hlt1
  refine Qa ?_
  simp only [go_sem]
  refine Qh (Qd rfl ?_ ?_)
  ·intro hc
   have hl : i < args.length := by simpa using hc
   have hv := hargs _ (Qoj hl)
   have htk := Qayg hl
   have hve : args.getD i 0 = ((args.getD i 0).toNat : Int) := by omega
   generalize hr : (args.getD i 0).toNat = r at *
   refine Qf ?_
   try simp only [go_sem]
   refine Qh (Qc ?_)
   refine Qa ?_
   simp only [go_sem, hl, Qg, Q6 _ _ hl, hve]
   refine Qq ?_
   simp only [go_sem, hM, Qcf, Qgc, Qx5]
   refine ⟨by simp only [LIM]; omega, fun H2 h2 => ?_⟩
   have kn := kn.stE 0 rfl h2
   refine Qq ?_
   simp only [go_sem, X.next]
   refine ⟨Qo (by omega) (by omega), args.length - (i + 1), by omega, i + 1, ver1 + 1, addK ks1 r, rfl, by omega, Qr5 hnd1, Qaip hlt1 hv.2, fun x => ?_, kn, rfl⟩
   rw [addK_mem, hmem, htk, List.mem_append, List.mem_singleton, or_assoc]
  ·intro hc
   have hge : args.length ≤ i := by simpa using hc
   refine Qt ?_
   simp only [go_sem, X.next]
   refine Qa ?_
   simp only [go_sem]
   refine Qj ?_
   simp only [go_sem, Qz, Qac, Qlq, List.mem_singleton, forall_eq, RS.op]
   refine ⟨_, .c _ _ (.same _ rfl), hK ver1 ks1 _ kn.fin hnd1 fun r => ?_⟩
   rw [hmem, List.take_of_length_le (by simpa [toN] using hge)]
structure SetO where
 c : C
 lg : List (Nat × Obj)
 ks : List Nat
structure SetO.ok (R : Nat) (s : SetO) : Prop where
 nd : s.ks.Nodup
 lt : ∀ x ∈ s.ks, x < R
 m : (s.c = .mnil ∧ s.lg = [] ∧ s.ks = []) ∨ ∃ M ver, s.c = .mp M ∧ s.lg = [(M, .map ver (Qai s.ks))]
def Qr0 (ss : List SetO) : List (List C) := ss.map fun s => [s.c]
theorem Qj8 (ss : List SetO) : (Qr0 ss).length = ss.length := by simp [Qr0]
theorem Qsg (ss : List SetO) (i : Nat) (h : i < ss.length) : (Qr0 ss).getD i [] = [ss[i].c] := by simp [Qr0, List.getD_eq_getElem?_getD, h]
theorem SetO.ok.isOw {R : Nat} {s : SetO} (h : s.ok R) : s.c.isOw = false := by rcases h.m with ⟨h, _⟩ | ⟨M, ver, h, _⟩ <;> rw [h] <;> rfl
theorem SetO.ok.len {R : Nat} {s : SetO} (h : s.ok R) : s.ks.length ≤ R := Qbz h.nd h.lt
def imE (q : CodeD) (fl : Bool) (l yi yp : Nat) (ss : List SetO) (pr : List (List C)) : List (Nat × Obj) :=
 [(l, .st [.int .i64 q.params, .int .i64 q.regs, .sl fl 5 (Ql q.blocks), .vsl yi 1 0 q.blocks.length, .vsl yp 1 0 q.blocks.length]), (yi, .vec 1 (Qr0 ss)), (yp, .vec 1 pr)] ++ ss.flatMap SetO.lg
structure imOk (q : CodeD) (ss : List SetO) (pr : List (List C)) : Prop where
 l : ss.length = q.blocks.length
 s : ∀ s ∈ ss, s.ok q.regs.toNat
 pl : pr.length = q.blocks.length
 p : ∀ b, b < q.blocks.length → ∃ fl, pr.getD b [] = [.sl fl 1 (Qe (Qas (gnx q) (b : Int) q.blocks.length))]
def tabS (ss : List SetO) (b : Nat) : RS' := fun r => r ∈ ((ss[b]?.map SetO.ks).getD [])
theorem Qbbc {ss : List SetO} {b : Nat} (h : b < ss.length) (r : Nat) : tabS ss b r ↔ r ∈ ss[b].ks := by simp [tabS, h]
variable {q : CodeD} {fl : Bool} {l yi yp : Nat} {ss : List SetO} {pr : List (List C)}
theorem Qyn (kn : Kn F H (imE q fl l yi yp ss pr) L) : H l = .st [.int .i64 q.params, .int .i64 q.regs, .sl fl 5 (Ql q.blocks), .vsl yi 1 0 q.blocks.length, .vsl yp 1 0 q.blocks.length] ∧ H yi = .vec 1 (Qr0 ss) ∧ H yp = .vec 1 pr :=
 ⟨kn.e 0 rfl, kn.e 1 rfl, kn.e 2 rfl⟩
theorem Q5x (kn : Kn F H (imE q fl l yi yp ss pr) L) {s : SetO} (hs : s ∈ ss) {M ver : Nat} (hl : s.lg = [(M, .map ver (Qai s.ks))]) : H M = .map ver (Qai s.ks) :=
 (kn.get (M, .map ver (Qai s.ks)) (List.mem_append_left _ (List.mem_append_right _ (List.mem_flatMap.2 ⟨s, hs, by rw [hl]; simp⟩)))).1
set_option maxHeartbeats 4000000 in
theorem Qbci {b : Nat} (ho : q.ok) (hb : b < q.blocks.length) (him : imOk q ss pr) (kn : Kn F H (imE q fl l yi yp ss pr) [])
  (hK : ∀ M ver ks H', ks.Nodup → (∀ x ∈ ks, x < q.regs.toNat) → (∀ r, r ∈ ks ↔ (Q3 q).outT (tabS ss) b r) → Kn F H' (imE q fl l yi yp ss pr) [(M, .map ver (Qai ks))] → K (.c (.mp M)) H') :
  Qp prog Qf5 [.c (.ptr l 0), .c (.int .i64 b)] H K := by
 have hr0 := ho.r0
 have hr1 := ho.r1
 have hb1 := ho.b1
 have hFn : (Q3 q).n = q.blocks.length := rfl
 have hsl := him.l
 have hpl := him.pl
 have hbd := ho.bdF
 obtain ⟨y, hy⟩ : ∃ y, q.blocks[b] = y := ⟨_, rfl⟩
 have hyo : y.ok q b := by rw [← hy]; exact ho.bs b hb
 have hnx : (Q3 q).nx b = y.next.map Int.toNat := by rw [← hy, ← Qahp hb]; rfl
 have hnl := hyo.nxl
 have htks : (Qr0 ss).take q.blocks.length = Qr0 ss := List.take_of_length_le (by rw [Qj8]; omega)
 have htkp : pr.take q.blocks.length = pr := List.take_of_length_le (by omega)
 refine Qb Qat Qadc ?_
 refine Qa ?_
 simp only [go_sem]
 refine Qa ?_
 simp only [go_sem]
 intro M hM H1 h1
 have kn : Kn F H1 (imE q fl l yi yp ss pr) [(M, .map 0 (Qai []))] := kn.al hM h1
 obtain ⟨hl, hyi, hyp⟩ := Qyn kn
 simp only [go_sem, Qjw]
 refine Q4 ?_
 refine Qa ?_
 simp only [go_sem, hl, hb, Qn, Q5 _ _ hb, BlkD.cells, hy]
 refine Qbch (by omega) fun ns H2 hu hasc hmem hlen => ?_
 have kn := kn.call0 hu
 simp only [go_sem, Qjx, Qg]
 intro _
 have hns : ∀ v ∈ ns, ∃ m : Nat, v = (m : Int) ∧ m < q.blocks.length ∧ m ∈ (Q3 q).nx b ∧ (m : Int) ∈ gnx q b := fun v hv => by
  have hv' := (hmem v).1 hv
  have := hyo.nx v hv'
  refine ⟨v.toNat, by omega, by omega, ?_, ?_⟩
  ·rw [hnx]; exact List.mem_map.2 ⟨v, hv', rfl⟩
  ·rw [Qahp hb, hy]
   have : ((v.toNat : Nat) : Int) = v := by omega
   rw [this]; exact hv'
 clear hl hyi hyp hM h1
 refine Qh (Qc (Qu (fun m e1 H1 => ∃ (i ver : Nat) (ks : List Nat), m = ns.length - i ∧ i ≤ ns.length ∧ ks.Nodup ∧ (∀ x ∈ ks, x < q.regs.toNat) ∧ (∀ r, r ∈ ks ↔ ∃ v ∈ ns.take i, tabS ss v.toNat r ∨ r ∈ (Q3 q).ea b v.toNat) ∧
  Kn F H1 (imE q fl l yi yp ss pr) [(M, .map ver (Qai ks))] ∧
  e1 = [(0, .c (.ptr l 0)), (1, .c (.int .i64 b)), (5, .c (.mp M)), (22, .c (.sl false 1 (Qe ns))), (23, .c (.int .i64 ns.length)), (24, .c (.int .i64 i))]) ns.length ?_ ?_))
 ·exact ⟨0, 0, [], by omega, by omega, by simp, by simp, by simp, kn, rfl⟩
 ·clear kn hu
  rintro m e1 H3 ⟨i, ver, ks, hm, hi, hnd, hlt, hks, kn, rfl⟩
  refine Qa ?_
  simp only [go_sem]
  refine Qh (Qd rfl ?_ ?_)
  ·intro hc
   have hil : i < ns.length := by simpa using hc
   obtain ⟨d, hd, hdb, hdF, hdx⟩ := hns _ (Qoj hil)
   have htk : ns.take (i + 1) = ns.take i ++ [(d : Int)] := by
    rw [List.take_succ_eq_append_getElem hil, ← hd]; simp [List.getD_eq_getElem?_getD, hil]
   have hdss : d < ss.length := by omega
   obtain ⟨s, hs⟩ : ∃ s, ss[d] = s := ⟨_, rfl⟩
   have hsm : s ∈ ss := by rw [← hs]; exact List.getElem_mem hdss
   have hso := him.s s hsm
   have hsw := hso.isOw
   have htabd : ∀ r, tabS ss d r ↔ r ∈ s.ks := fun r => by rw [Qbbc hdss, hs]
   obtain ⟨flp, hpr⟩ := him.p d hdb
   obtain ⟨z, hz⟩ : ∃ z, q.blocks[d] = z := ⟨_, rfl⟩
   have hzo : z.ok q d := by rw [← hz]; exact ho.bs d hdb
   have hea : (Q3 q).ea b d = z.phis.map fun p => (p.args.getD ((Qas (gnx q) (d : Int) q.blocks.length).idxOf (b : Int)) 0).toNat := by rw [Qaiu hdb, hz]
   have hix := ho.ix hb hdx
   have hpe : (b : Int) ∈ Qas (gnx q) (d : Int) q.blocks.length := List.idxOf_lt_length_iff.1 hix
   generalize hat : (Qas (gnx q) (d : Int) q.blocks.length).idxOf (b : Int) = at_ at *
   refine Qf ?_
   try simp only [go_sem]
   refine Qdm (fun e2 H2 => ∃ (ver : Nat) (ks : List Nat), ks.Nodup ∧ (∀ x ∈ ks, x < q.regs.toNat) ∧ (∀ r, r ∈ ks ↔ ∃ v ∈ ns.take (i + 1), tabS ss v.toNat r ∨ r ∈ (Q3 q).ea b v.toNat) ∧
    Kn F H2 (imE q fl l yi yp ss pr) [(M, .map ver (Qai ks))] ∧
    lk 0 e2 = .c (.ptr l 0) ∧ lk 1 e2 = .c (.int .i64 b) ∧ lk 5 e2 = .c (.mp M) ∧ lk 22 e2 = .c (.sl false 1 (Qe ns)) ∧ lk 23 e2 = .c (.int .i64 ns.length) ∧ lk 24 e2 = .c (.int .i64 i)) ?_ ?_
   ·intro Q hnr _ _
    refine Qc ?_
    refine Qa ?_
    simp only [go_sem, hil, Qg, Q6 _ _ hil, hd]
    refine Qdm (fun e2 H2 => ∃ (ver : Nat) (ks1 : List Nat), ks1.Nodup ∧ (∀ x ∈ ks1, x < q.regs.toNat) ∧ (∀ r, r ∈ ks1 ↔ r ∈ ks ∨ r ∈ s.ks) ∧
     Kn F H2 (imE q fl l yi yp ss pr) [(M, .map ver (Qai ks1))] ∧
     lk 0 e2 = .c (.ptr l 0) ∧ lk 1 e2 = .c (.int .i64 b) ∧ lk 5 e2 = .c (.mp M) ∧ lk 7 e2 = .c (.int .i64 d) ∧ lk 22 e2 = .c (.sl false 1 (Qe ns)) ∧ lk 23 e2 = .c (.int .i64 ns.length) ∧ lk 24 e2 = .c (.int .i64 i)) ?_ ?_
    ·intro Q hnr _ _
     obtain ⟨hl, hyi, hyp⟩ := Qyn kn
     have hMk := kn.l 0 rfl
     refine Qa ?_
     rcases hso.m with ⟨hsc, _, hsk⟩ | ⟨N, verN, hsc, hslg⟩
     ·simp only [go_sem, hl, hyi, htks, Qj8, Qsg _ _ hdss, hs, hsc, hdb, hsl, Nat.zero_add, Nat.le_refl]
      intro it hit H4 h4
      have kn := kn.al hit h4
      have hit4 := kn.l 1 rfl
      refine Qc (Qu (fun m e1 H1 => H1 = H4 ∧ e1 = [(0, .c (.ptr l 0)), (1, .c (.int .i64 b)), (5, .c (.mp M)), (7, .c (.int .i64 d)), (22, .c (.sl false 1 (Qe ns))), (23, .c (.int .i64 ns.length)), (24, .c (.int .i64 i)), (35, .c (.itr it))]) 0 ⟨rfl, rfl⟩ ?_)
      rintro m e1 H5 ⟨rfl, rfl⟩
      refine Qa ?_
      simp only [go_sem, hit4, Qcl, List.getD_cons_zero]
      refine Qh (Qd rfl (fun h => by simp at h) fun _ => ?_)
      refine Qt ?_
      simp only [go_sem, X.next]
      exact hnr _ _ ⟨ver, ks, hnd, hlt, fun r => by rw [hsk]; simp, kn.drop (A := [_]), rfl, rfl, rfl, rfl, rfl, rfl, rfl⟩
     ·have hN := Q5x kn hsm hslg
      have hkl2 := hso.len
      simp only [go_sem, hl, hyi, htks, Qj8, Qsg _ _ hdss, hs, hsc, hdb, hsl, hN, Nat.zero_add, Nat.le_refl]
      refine ⟨Qkt hso.nd, fun it hit H4 h4 => ?_⟩
      have kn := kn.al hit h4
      refine Qc (Qu (fun m e1 H1 => ∃ (left : List (C × V)) (cur : Option (C × V)) (ver : Nat) (ks1 : List Nat), m = left.length ∧ (∀ y ∈ left, ∃ x ∈ s.ks, y = (C.int .i64 (x : Int), V.c (.bool true))) ∧ left.Nodup ∧ ks1.Nodup ∧ (∀ x ∈ ks1, x < q.regs.toNat) ∧
       (∀ r, r ∈ ks1 ↔ r ∈ ks ∨ (r ∈ s.ks ∧ (C.int .i64 (r : Int), V.c (.bool true)) ∉ left)) ∧
       Kn F H1 (imE q fl l yi yp ss pr) [(M, .map ver (Qai ks1)), (it, .iter (some (N, verN)) left cur)] ∧
       e1 = [(0, .c (.ptr l 0)), (1, .c (.int .i64 b)), (5, .c (.mp M)), (7, .c (.int .i64 d)), (22, .c (.sl false 1 (Qe ns))), (23, .c (.int .i64 ns.length)), (24, .c (.int .i64 i)), (35, .c (.itr it))]) (Qai s.ks).length ?_ ?_)
      ·refine ⟨Qai s.ks, none, ver, ks, rfl, fun y hy => ?_, Qkt hso.nd, hnd, hlt, fun r => ?_, kn, rfl⟩
       ·obtain ⟨x, hx, rfl⟩ := List.mem_map.1 hy
        exact ⟨x, hx, rfl⟩
       ·constructor
        ·exact .inl
        ·rintro (h | ⟨h1, h2⟩)
         ·exact h
         ·exact absurd (List.mem_map.2 ⟨r, h1, rfl⟩) h2
      ·clear kn h4 hit
       rintro m e1 H5 ⟨left, cur, ver1, ks1, rfl, hleft, hlnd, hnd1, hlt1, hmem1, kn, rfl⟩
       have hN := Q5x kn hsm hslg
       have hM5 := kn.l 0 rfl
       have hit5 := kn.l 1 rfl
       have hkl := Qbz hnd1 hlt1
       refine Qa ?_
       simp only [go_sem, hit5, hN]
       refine ⟨⟨_, rfl⟩, fun hnil => ?_, fun y left' hyl hl' hnd' hlen' H6 h6 => ?_⟩
       ·subst hnil
        simp only [go_sem, Qcl, List.getD_cons_zero]
        refine Qh (Qd rfl (fun h => by simp at h) fun _ => ?_)
        refine Qt ?_
        simp only [go_sem, X.next]
        exact hnr _ _ ⟨ver1, ks1, hnd1, hlt1, fun r => by rw [hmem1]; simp, kn.drop (A := [_]), rfl, rfl, rfl, rfl, rfl, rfl, rfl⟩
       ·obtain ⟨k, hk, rfl⟩ := hleft y hyl
        have kn := kn.stL 1 rfl h6
        have hN6 := Q5x kn hsm hslg
        have hit6 := kn.l 1 rfl
        have hM6 := kn.l 0 rfl
        simp only [go_sem, Qcl, List.getD_cons_zero]
        refine Qh (Qd rfl (fun _ => ?_) (fun h => by simp at h))
        refine Qf ?_
        try simp only [go_sem]
        refine Qc ?_
        refine Qa ?_
        simp only [go_sem, hit6, hN6]
        refine ⟨⟨_, rfl⟩, ?_⟩
        simp only [go_sem, Qjy, List.getD_cons_zero]
        refine Qq ?_
        simp only [go_sem, hM6, Qcf, Qgc, Qx5]
        refine ⟨by simp only [LIM]; omega, fun H7 h7 => ?_⟩
        have kn := kn.stL 0 rfl h7
        simp only [X.next]
        refine ⟨left'.length, by omega, left', _, ver1 + 1, addK ks1 k, rfl, fun y hy => hleft y ((hl' y).1 hy).1, hnd', Qr5 hnd1, Qaip hlt1 (hso.lt k hk), fun r => ?_, kn, by trivial⟩
        rw [addK_mem, hmem1, hl']
        simp only [ne_eq, Prod.mk.injEq, C.int.injEq, true_and, and_true, not_and, Classical.not_not]
        constructor
        ·rintro ((h | ⟨h1, h2⟩) | h)
         ·exact .inl h
         ·exact .inr ⟨h1, fun h3 => absurd h3 h2⟩
         ·subst h; exact .inr ⟨hk, fun _ => rfl⟩
        ·rintro (h | ⟨h1, h2⟩)
         ·exact .inl (.inl h)
         ·by_cases h3 : (C.int .i64 (r : Int), V.c (.bool true)) ∈ left
          ·have := h2 h3
           exact .inr (by omega)
          ·exact .inl (.inr ⟨h1, h3⟩)
    ·rintro e2 H4 ⟨ver1, ks1, hnd1, hlt1, hmem1, kn, l0, l1, l5, l7, l22, l23, l24⟩
     obtain ⟨hl, hyi, hyp⟩ := Qyn kn
     refine Qa ?_
     simp only [go_sem, l0, l1, l5, l7, l22, l23, l24, hl, hyp, htkp, hpl, hdb, hpr, Nat.zero_add, Nat.le_refl]
     refine Qa1v (.mk' _ _ _ _) rfl fun r hr => ?_
     have hr := hr.idx hpe
     rw [hat] at hr
     subst hr
     simp only [go_sem, Qjz, l0, l1, l5, l7, l22, l23, l24]
     refine Qa ?_
     simp only [go_sem, hl, hdb, Qn, Q5 _ _ hdb, BlkD.cells, hz, Qy]
     intro hzl
     simp only [LIM] at hzl
     refine Qc (Qu (fun m e1 H1 => ∃ (i2 ver2 : Nat) (ks2 : List Nat), m = z.phis.length - i2 ∧ i2 ≤ z.phis.length ∧ ks2.Nodup ∧ (∀ x ∈ ks2, x < q.regs.toNat) ∧ (∀ r, r ∈ ks2 ↔ (r ∈ ks ∨ r ∈ s.ks) ∨ r ∈ ((Q3 q).ea b d).take i2) ∧
      Kn F H1 (imE q fl l yi yp ss pr) [(M, .map ver2 (Qai ks2))] ∧
      e1 = [(0, .c (.ptr l 0)), (1, .c (.int .i64 b)), (5, .c (.mp M)), (9, .c (.int .i64 at_)), (22, .c (.sl false 1 (Qe ns))), (23, .c (.int .i64 ns.length)), (24, .c (.int .i64 i)), (59, .c (.sl false 2 (Q1 z.phis))), (60, .c (.int .i64 z.phis.length)), (61, .c (.int .i64 i2))]) z.phis.length ?_ ?_)
     ·exact ⟨0, ver1, ks1, by omega, by omega, hnd1, hlt1, fun r => by rw [hmem1]; simp, kn, rfl⟩
     ·clear kn hl hyi hyp
      rintro m e1 H5 ⟨i2, ver2, ks2, hm2, hi2, hnd2, hlt2, hmem2, kn, rfl⟩
      have hkl := Qbz hnd2 hlt2
      refine Qa ?_
      simp only [go_sem]
      refine Qh (Qd rfl ?_ ?_)
      ·intro hc2
       have hl2 : i2 < z.phis.length := by simpa using hc2
       obtain ⟨p, hp⟩ : ∃ p, z.phis[i2] = p := ⟨_, rfl⟩
       have hpm : p ∈ z.phis := by rw [← hp]; exact List.getElem_mem hl2
       have hpal := hzo.pal p hpm
       have hal : at_ < p.args.length := by omega
       obtain ⟨hv, hvl⟩ := (hzo.pargs p hpm _ (Qoj hal)).nat
       have htk2 : ((Q3 q).ea b d).take (i2 + 1) = ((Q3 q).ea b d).take i2 ++ [(p.args.getD at_ 0).toNat] := by
        rw [List.take_succ_eq_append_getElem (by rw [hea, List.length_map]; exact hl2)]
        simp [hea, hp]
       generalize hr : (p.args.getD at_ 0).toNat = r at *
       refine Qf ?_
       try simp only [go_sem]
       refine Qh (Qc ?_)
       refine Qa ?_
       simp only [go_sem, hl2, Qy, Qa2 _ _ hl2, PhiD.cells, hp]
       intro x11 hx11 H6 h6
       have kn := kn.al hx11 h6
       have hx11 := kn.l 1 rfl
       simp only [go_sem, Qj0, hx11]
       intro H7 h7
       have kn : Kn F H7 (imE q fl l yi yp ss pr) [(M, .map ver2 (Qai ks2)), (x11, .st [.int .i64 p.to, .sl false 1 (Qe p.args)])] := kn.stL 1 rfl h7
       have hx11 := kn.l 1 rfl
       have hM7 := kn.l 0 rfl
       refine Qq ?_
       simp only [go_sem, hx11, hM7, hal, Qg, Q6 _ _ hal, hv, Qcf, Qgc, Qx5]
       refine ⟨by simp only [LIM]; omega, fun H8 h8 => ?_⟩
       have kn := kn.stL 0 rfl h8
       refine Qq ?_
       simp only [go_sem, X.next]
       refine ⟨Qo (by omega) (by omega), z.phis.length - (i2 + 1), by omega, i2 + 1, ver2 + 1, addK ks2 r, rfl, by omega, Qr5 hnd2, Qaip hlt2 hvl, fun x => ?_, kn.drop (A := [_]), rfl⟩
       rw [addK_mem, hmem2, htk2, List.mem_append, List.mem_singleton, or_assoc]
      ·intro hc2
       have hge2 : z.phis.length ≤ i2 := by simpa using hc2
       refine Qt ?_
       simp only [go_sem, X.next]
       refine hnr _ _ ⟨ver2, ks2, hnd2, hlt2, fun r => ?_, kn, rfl, rfl, rfl, rfl, rfl, rfl⟩
       have hte : ((Q3 q).ea b d).take i2 = (Q3 q).ea b d := List.take_of_length_le (by rw [hea, List.length_map]; exact hge2)
       rw [hmem2, hks, htk, hte]
       constructor
       ·rintro ((⟨v, hv, h⟩ | h) | h)
        ·exact ⟨v, List.mem_append_left _ hv, h⟩
        ·exact ⟨(d : Int), List.mem_append_right _ (by simp), .inl ((htabd r).2 h)⟩
        ·exact ⟨(d : Int), List.mem_append_right _ (by simp), .inr h⟩
       ·rintro ⟨v, hv, h⟩
        rcases List.mem_append.1 hv with hv | hv
        ·exact .inl (.inl ⟨v, hv, h⟩)
        ·simp only [List.mem_singleton] at hv
         subst hv
         rcases h with h | h
         ·exact .inl (.inr ((htabd r).1 h))
         ·exact .inr h
   ·rintro e2 H4 ⟨ver1, ks1, hnd1, hlt1, hks1, kn, l0, l1, l5, l22, l23, l24⟩
    refine Qq ?_
    simp only [go_sem, X.next, l0, l1, l5, l22, l23, l24]
    exact ⟨Qo (by omega) (by omega), ns.length - (i + 1), by omega, i + 1, ver1, ks1, rfl, by omega, hnd1, hlt1, hks1, kn, rfl⟩
  ·intro hc
   have hge : ns.length ≤ i := by simpa using hc
   rw [List.take_of_length_le hge] at hks
   refine Qt ?_
   simp only [go_sem, X.next]
   refine Qa ?_
   simp only [go_sem]
   refine Qj ?_
   simp only [go_sem, Qz, Qac, Qs9, List.mem_singleton, forall_eq, RS.op]
   refine hK M ver ks H3 hnd hlt (fun r => ?_) kn
   rw [hks]
   constructor
   ·rintro ⟨v, hv, h⟩
    exact ⟨v.toNat, by rw [hnx]; exact List.mem_map.2 ⟨v, (hmem v).1 hv, rfl⟩, h⟩
   ·rintro ⟨d, hd, h⟩
    rw [hnx] at hd
    obtain ⟨v, hv, rfl⟩ := List.mem_map.1 hd
    exact ⟨v, (hmem v).2 hv, h⟩
end Go.AE.Y

namespace Go.AE.Y
attribute [local instance] Classical.propDecidable
def tab (zs : List (Nat × List Bool)) (b : Nat) : RS' := fun r => (((zs[b]?).map Prod.snd).getD []).getD r false = true
variable {zs zi zo : List (Nat × List Bool)} {F : Flo}
theorem Qa5q {b : Nat} (h : b < zs.length) (r : Nat) : tab zs b r ↔ zs[b].2.getD r false = true := by simp [tab, h]
theorem Qayf {b : Nat} {x : Nat × List Bool} (h : b < zs.length) (r : Nat) : tab (zs.set b x) b r ↔ x.2.getD r false = true := by simp [tab, h]
theorem Qr3 {b c : Nat} {x : Nat × List Bool} (h : c ≠ b) : tab (zs.set b x) c = tab zs c := by
 funext r
 simp only [tab]
 rw [List.getElem?_set_ne (fun e => h e.symm)]
theorem Qaqr {α : Type} {l : List α} {i : Nat} {x : α} (h : l[i]? = some x) : l.set i x = l := by
 have hi := (List.getElem?_eq_some_iff.1 h).1
 refine List.ext_getElem? fun j => ?_
 rw [List.getElem?_set]
 by_cases hij : i = j
 ·subst hij; rw [if_pos rfl, if_pos hi, h]
 ·rw [if_neg hij]
theorem Q5b {a b : List Bool} (hl : a.length = b.length) (h : ∀ r, a.getD r false = true → b.getD r false = true) : cnt a ≤ cnt b ∧ (∀ r, a.getD r false ≠ b.getD r false → cnt a < cnt b) := by
 induction a generalizing b with
 | nil =>
  cases b with
  | nil => exact ⟨Nat.le_refl _, fun r hr => absurd rfl hr⟩
  | cons => simp at hl
 | cons x a ih =>
  cases b with
  | nil => simp at hl
  | cons y b =>
   have ih' := ih (b := b) (by simpa using hl) fun r hr => by have := h (r + 1); simpa using this (by simpa using hr)
   have h0 : x = true → y = true := by have := h 0; simpa using this
   have hc : ∀ (z : Bool) (l : List Bool), cnt (z :: l) = cnt l + (if z = true then 1 else 0) := fun z l => by
    simp only [cnt, List.count_cons]; cases z <;> simp
   rw [hc, hc]
   refine ⟨?_, fun r hr => ?_⟩
   ·cases x with
    | false => have := ih'.1; cases y <;> simp <;> omega
    | true => rw [h0 rfl]; have := ih'.1; simp; omega
   ·cases r with
    | zero =>
     have hxy : x ≠ y := by simpa using hr
     cases x with
     | true => exact absurd (h0 rfl).symm hxy
     | false =>
      cases y with
      | false => exact absurd rfl hxy
      | true => have := ih'.1; simp; omega
    | succ r =>
     have := ih'.2 r (by simpa using hr)
     cases x with
     | false => cases y <;> simp <;> omega
     | true => rw [h0 rfl]; simp; omega
def Qj9 (zs : List (Nat × List Bool)) : Nat := (zs.map fun p => cnt p.2).sum
theorem Qayh {b : Nat} {x : Nat × List Bool} (h : b < zs.length) : Qj9 (zs.set b x) + cnt zs[b].2 = Qj9 zs + cnt x.2 := by
 induction zs generalizing b with
 | nil => simp at h
 | cons z zs ih =>
  cases b with
  | zero => simp [Qj9]; omega
  | succ b =>
   have := ih (b := b) (by simpa using h)
   simp only [Qj9, List.set_cons_succ, List.map_cons, List.sum_cons, List.getElem_cons_succ] at this ⊢
   omega
theorem Qamb {R : Nat} (h : ∀ p ∈ zs, p.2.length = R) : Qj9 zs ≤ zs.length * R := by
 induction zs with
 | nil => simp [Qj9]
 | cons z zs ih =>
  have h1 := Qbbt z.2
  rw [h z List.mem_cons_self] at h1
  have h2 := ih fun p hp => h p (List.mem_cons_of_mem _ hp)
  simp only [Qj9, List.map_cons, List.sum_cons, List.length_cons, Nat.succ_mul] at *
  omega
structure LvInv (F : Flo) (zi zo : List (Nat × List Bool)) : Prop where
 bi : ∀ b, b < F.n → ∀ r, tab zi b r → F.LI b r
 bo : ∀ b, b < F.n → ∀ r, tab zo b r → F.LO b r
 post : ∀ b, b < F.n → ∀ r, tab zi b r → F.thru (tab zo b) b r
def LvCl (F : Flo) (zi zo : List (Nat × List Bool)) (b : Nat) : Prop := (∀ r, F.outT (tab zi) b r → tab zo b r) ∧ ∀ r, F.thru (tab zo b) b r → tab zi b r
theorem LvInv.done (h : LvInv F zi zo) (hf : F.fits) (hc : ∀ b, b < F.n → LvCl F zi zo b) : ∀ b, b < F.n → ∀ r, (tab zi b r ↔ F.LI b r) ∧ (tab zo b r ↔ F.LO b r) := by
 have hp : F.Pre (tab zi) := fun b hb r hr => (hc b hb).2 r (Flo.thru_mono (hc b hb).1 b r hr)
 intro b hb r
 refine ⟨Flo.is_least hp h.bi hb r, h.bo b hb r, fun hr => (hc b hb).1 r ?_⟩
 exact Flo.outT_mono hf (fun c hc r hr => (Flo.is_least hp h.bi hc r).2 hr) hb r hr
theorem LvInv.step {R z w y b : Nat} {bs bw bs1 nb : List Bool} {a a1 a2 : Bool} (h : LvInv F zi zo) (hf : F.fits) (hb : b < F.n) (hil : zi.length = F.n) (hol : zo.length = F.n) (hRi : ∀ p ∈ zi, p.2.length = R) (hRo : ∀ p ∈ zo, p.2.length = R)
  (hl1 : bs1.length = R) (hln : nb.length = R) (hzo : zo[b]? = some (z, bs)) (hzi : zi[b]? = some (w, bw))
  (g1 : ∀ r, bs.getD r false = true → bs1.getD r false = true) (g2 : ∀ r, bs1.getD r false = true → F.LO b r) (g3 : ∀ r, F.outT (tab zi) b r → bs1.getD r false = true)
  (g4 : ∀ r, nb.getD r false = true ↔ F.thru (fun r => bs1.getD r false = true) b r)
  (k1 : a1 = true → a = true ∨ cnt bs < cnt bs1) (k2 : a1 = false → a = false ∧ bs1 = bs)
  (k3 : a2 = true → a1 = true ∨ ∃ r, nb.getD r false ≠ bw.getD r false) (k4 : a2 = false → a1 = false ∧ ∀ r, r < R → nb.getD r false = bw.getD r false) :
  LvInv F (zi.set b (y, nb)) (zo.set b (z, bs1)) ∧ Qj9 zi + Qj9 zo ≤ Qj9 (zi.set b (y, nb)) + Qj9 (zo.set b (z, bs1)) ∧
   (a2 = true → a = true ∨ Qj9 zi + Qj9 zo < Qj9 (zi.set b (y, nb)) + Qj9 (zo.set b (z, bs1))) ∧
   (a2 = false → a = false ∧ LvCl F (zi.set b (y, nb)) (zo.set b (z, bs1)) b ∧ ∀ c, LvCl F zi zo c → LvCl F (zi.set b (y, nb)) (zo.set b (z, bs1)) c) := by
 have hbi : b < zi.length := by omega
 have hbo : b < zo.length := by omega
 have ezo : zo[b] = (z, bs) := by rw [List.getElem?_eq_getElem hbo] at hzo; simpa using hzo
 have ezi : zi[b] = (w, bw) := by rw [List.getElem?_eq_getElem hbi] at hzi; simpa using hzi
 have hlb : bs.length = R := hRo (z, bs) (by rw [← ezo]; exact List.getElem_mem hbo)
 have hlw : bw.length = R := hRi (w, bw) (by rw [← ezi]; exact List.getElem_mem hbi)
 have tzo : ∀ r, tab zo b r ↔ bs.getD r false = true := fun r => by rw [Qa5q hbo, ezo]
 have tzi : ∀ r, tab zi b r ↔ bw.getD r false = true := fun r => by rw [Qa5q hbi, ezi]
 have tzo' : ∀ r, tab (zo.set b (z, bs1)) b r ↔ bs1.getD r false = true := fun r => Qayf hbo r
 have tzi' : ∀ r, tab (zi.set b (y, nb)) b r ↔ nb.getD r false = true := fun r => Qayf hbi r
 have hsub : ∀ r, bw.getD r false = true → nb.getD r false = true := fun r hr => by
  rw [g4]
  exact Flo.thru_mono (fun r hr => g1 r ((tzo r).1 hr)) b r (h.post b hb r ((tzi r).2 hr))
 have c1 := Q5b (a := bs) (b := bs1) (by omega) g1
 have c2 := Q5b (a := bw) (b := nb) (by omega) hsub
 have t1 := Qayh (zs := zo) (x := (z, bs1)) hbo
 have t2 := Qayh (zs := zi) (x := (y, nb)) hbi
 rw [ezo] at t1
 rw [ezi] at t2
 simp only at t1 t2
 refine ⟨⟨fun c hc r hr => ?_, fun c hc r hr => ?_, fun c hc r hr => ?_⟩, by have := c1.1; have := c2.1; omega, fun ha => ?_, fun ha => ?_⟩
 ·by_cases hcb : c = b
  ·subst hcb
   rw [tzi', g4] at hr
   exact Flo.LI_pre hf c hb r (Flo.thru_mono g2 c r hr)
  ·rw [Qr3 hcb] at hr; exact h.bi c hc r hr
 ·by_cases hcb : c = b
  ·subst hcb
   rw [tzo'] at hr; exact g2 r hr
  ·rw [Qr3 hcb] at hr; exact h.bo c hc r hr
 ·by_cases hcb : c = b
  ·subst hcb
   rw [tzi', g4] at hr
   exact Flo.thru_mono (fun r hr => (tzo' r).2 hr) c r hr
  ·rw [Qr3 hcb] at hr ⊢; exact h.post c hc r hr
 ·rcases k3 ha with h1 | ⟨r, hr⟩
  ·rcases k1 h1 with h2 | h2
   ·exact .inl h2
   ·right; have := c2.1; omega
  ·right
   have := c2.2 r (fun e => hr e.symm)
   have := c1.1
   omega
 ·obtain ⟨h1, h2⟩ := k4 ha
  obtain ⟨h3, h4⟩ := k2 h1
  have hnb : ∀ r, nb.getD r false = bw.getD r false := fun r => by
   by_cases hr : r < R
   ·exact h2 r hr
   ·rw [List.getD_eq_getElem?_getD, List.getD_eq_getElem?_getD, List.getElem?_eq_none (by omega), List.getElem?_eq_none (by omega)]
  have ti : tab (zi.set b (y, nb)) = tab zi := by
   funext c r
   by_cases hcb : c = b
   ·subst hcb; refine propext ?_; rw [tzi', tzi, hnb]
   ·rw [Qr3 hcb]
  have to : tab (zo.set b (z, bs1)) = tab zo := by
   funext c r
   by_cases hcb : c = b
   ·subst hcb; refine propext ?_; rw [tzo', tzo, h4]
   ·rw [Qr3 hcb]
  refine ⟨h3, ⟨fun r hr => ?_, fun r hr => ?_⟩, fun c hc => ?_⟩
  ·rw [ti] at hr
   exact (tzo' r).2 (g3 r hr)
  ·rw [tzi', g4]
   exact Flo.thru_mono (fun r hr => (tzo' r).1 hr) b r hr
  ·rw [LvCl, ti, to]; exact hc
end Go.AE.Y

namespace Go.AE.Y
attribute [local go_sem] cond_true cond_false Bool.not_true Bool.not_false
open Go.Proofs.Tryz
variable {H H0 F : Heap} {K : V → Heap → Prop} {E L : List (Nat × Obj)}
def Qbo (R : Nat) (zs : List (Nat × List Bool)) : List (List C) := zs.map fun p => [.vsl p.1 1 0 R]
def obZ (zs : List (Nat × List Bool)) : List (Nat × Obj) := zs.map fun p => (p.1, .vec 1 (Qv p.2))
theorem Qaw (R : Nat) (zs : List (Nat × List Bool)) : (Qbo R zs).length = zs.length := by simp [Qbo]
theorem Qdf (R : Nat) (zs : List (Nat × List Bool)) (i : Nat) (h : i < zs.length) : (Qbo R zs).getD i [] = [.vsl zs[i].1 1 0 R] := by simp [Qbo, List.getD_eq_getElem?_getD, h]
theorem Qans {R : Nat} {zs : List (Nat × List Bool)} {i : Nat} {x : Nat × List Bool} (h : i < zs.length) (hx : x.1 = zs[i].1) : Qbo R (zs.set i x) = Qbo R zs := by
 rw [Qbo, List.map_set, hx]
 refine List.ext_getElem? fun j => ?_
 rw [List.getElem?_set]
 split
 ·subst_vars; rw [if_pos (by simpa using h)]; simp [Qbo, h]
 ·rfl
def lvE (R yi yo : Nat) (zi zo : List (Nat × List Bool)) : List (Nat × Obj) := [(yi, .vec 1 (Qbo R zi)), (yo, .vec 1 (Qbo R zo))] ++ (obZ zi ++ obZ zo)
variable {R yi yo : Nat} {zi zo : List (Nat × List Bool)}
theorem Qbdf {b : Nat} (hb : b < zo.length) : (lvE R yi yo zi zo)[2 + zi.length + b]? = some (zo[b].1, .vec 1 (Qv zo[b].2)) := by
 have : 2 + zi.length + b = (zi.length + b) + 1 + 1 := by omega
 rw [lvE, this]
 simp only [List.cons_append, List.nil_append, List.getElem?_cons_succ]
 rw [List.getElem?_append_right (by simp [obZ])]
 simp [obZ, hb]
theorem Qban {b z : Nat} {bs : List Bool} (hb : b < zo.length) (hz : zo[b].1 = z) : (lvE R yi yo zi zo).set (2 + zi.length + b) (z, .vec 1 (Qv bs)) = lvE R yi yo zi (zo.set b (z, bs)) := by
 have : 2 + zi.length + b = (zi.length + b) + 1 + 1 := by omega
 rw [lvE, lvE, this, Qans hb hz.symm]
 simp only [List.cons_append, List.nil_append, List.set_cons_succ]
 rw [List.set_append_right _ _ (by simp [obZ])]
 simp [obZ, List.map_set]
theorem Qaje {b m z w : Nat} {bs nb : List Bool} (kn : Kn F H (lvE R yi yo zi (zo.set b (z, bs))) L) (hb : b < zo.length) (hz : zo[b].1 = z) (hm : m < zi.length) (hw : zi[m] = (w, nb)) :
  H yi = .vec 1 (Qbo R zi) ∧ H yo = .vec 1 (Qbo R zo) ∧ H z = .vec 1 (Qv bs) ∧ H w = .vec 1 (Qv nb) := by
 refine ⟨(kn.get (yi, .vec 1 (Qbo R zi)) (by simp [lvE])).1, ?_, (kn.get (z, .vec 1 (Qv bs)) ?_).1, (kn.get (w, .vec 1 (Qv nb)) ?_).1⟩
 ·rw [← Qans (R := R) (x := (z, bs)) hb hz.symm]
  exact (kn.get (yo, .vec 1 (Qbo R (zo.set b (z, bs)))) (by simp [lvE])).1
 ·refine List.mem_append_left _ (List.mem_append_right _ (List.mem_append_right _ (List.mem_map.2 ⟨(z, bs), ?_, rfl⟩)))
  exact List.mem_iff_getElem.2 ⟨b, by simpa using hb, by simp⟩
 ·exact List.mem_append_left _ (List.mem_append_right _ (List.mem_append_left _ (List.mem_map.2 ⟨(w, nb), by rw [← hw]; exact List.getElem_mem hm, rfl⟩)))
theorem Qbam {b z : Nat} {bs bs2 : List Bool} {H' : Heap} (kn : Kn F H (lvE R yi yo zi (zo.set b (z, bs))) L) (hb : b < zo.length) (h : H' = H.set z (.vec 1 (Qv bs2))) : Kn F H' (lvE R yi yo zi (zo.set b (z, bs2))) L := by
 have hb' : b < (zo.set b (z, bs)).length := by simpa using hb
 have := kn.stE (2 + zi.length + b) (x := z) (o := .vec 1 (Qv bs)) (by have h := Qbdf (R := R) (yi := yi) (yo := yo) (zi := zi) hb'; simpa using h) h
 rw [Qban hb' (by simp), List.set_set] at this
 exact this
theorem Qbal {b z : Nat} {bs bs2 : List Bool} : (lvE R yi yo zi (zo.set b (z, bs))).map Prod.fst = (lvE R yi yo zi (zo.set b (z, bs2))).map Prod.fst := by
 have e : ∀ bs : List Bool, (obZ (zo.set b (z, bs))).map Prod.fst = (zo.map Prod.fst).set b z := fun bs => by
  simp only [obZ, List.map_set, List.map_map]; rfl
 simp only [lvE, List.map_append, List.map_cons, List.map_nil, e]
theorem Qx2 {bs : List Bool} {r : Nat} (h : bs.getD r false = true) : bs.set r true = bs := by
 refine List.ext_getElem? fun j => ?_
 rw [List.getElem?_set]
 split
 ·subst_vars
  rw [List.getD_eq_getElem?_getD] at h
  split
  ·rename_i hl; rw [List.getElem?_eq_getElem hl] at h ⊢; simp at h; rw [h]
  ·rename_i hl; rw [List.getElem?_eq_none (by omega)]
 ·rfl
structure lvOk (R n : Nat) (zi zo : List (Nat × List Bool)) : Prop where
 i : zi.length = n
 o : zo.length = n
 li : ∀ p ∈ zi, p.2.length = R
 lo : ∀ p ∈ zo, p.2.length = R
set_option maxHeartbeats 4000000 in
theorem Qa2s {q : CodeD} {fl : Bool} {b m z : Nat} {bs nb : List Bool} {w : Nat} (ho : q.ok) (hb : b < q.blocks.length) (hmx : (m : Int) ∈ gnx q b) (hok : lvOk q.regs.toNat q.blocks.length zi zo)
  (hz : zo[b]? = some (z, bs)) (hw : zi[m]? = some (w, nb)) {O I : RS'} (hO : Mem bs O) (hI : Mem nb I)
  (kn : Kn F H (lvE q.regs.toNat yi yo zi zo) [])
  (hK : ∀ (bs' : List Bool) (a : Bool) H', bs'.length = q.regs.toNat → Mem bs' (fun r => O r ∨ I r ∨ r ∈ (Q3 q).ea b m) → (a = true → cnt bs < cnt bs') → (a = false → bs' = bs) → Kn F H' (lvE q.regs.toNat yi yo zi (zo.set b (z, bs'))) [] → K (.c (.bool a)) H') :
  Qp prog Qye [.ag [.int .i64 q.params, .int .i64 q.regs, .sl fl 5 (Ql q.blocks)], .ag [.vsl yi 1 0 q.blocks.length, .vsl yo 1 0 q.blocks.length], .c (.int .i64 b), .c (.int .i64 m)] H K := by
 have hr0 := ho.r0
 have hr1 := ho.r1
 have hb1 := ho.b1
 have hmb : m < q.blocks.length := by
  have := (ho.bs b hb).nx (m : Int) (by rw [← Qahp hb]; exact hmx)
  omega
 have hix := ho.ix hb hmx
 have hpe : (b : Int) ∈ Qas (gnx q) (m : Int) q.blocks.length := List.idxOf_lt_length_iff.1 hix
 obtain ⟨y, hy⟩ : ∃ y, q.blocks[m] = y := ⟨_, rfl⟩
 have hyo : y.ok q m := by rw [← hy]; exact ho.bs m hmb
 have hil : y.ins.length ≤ 800 ∧ y.phis.length ≤ 800 := by rw [← hy]; exact ho.il m hmb
 have hea : (Q3 q).ea b m = y.phis.map fun p => (p.args.getD ((Qas (gnx q) (m : Int) q.blocks.length).idxOf (b : Int)) 0).toNat := by rw [Qaiu hmb, hy]
 generalize hat : (Qas (gnx q) (m : Int) q.blocks.length).idxOf (b : Int) = at_ at *
 have hbo : b < zo.length := by rw [hok.o]; exact hb
 have hmi : m < zi.length := by rw [hok.i]; exact hmb
 have hz' : zo[b] = (z, bs) := by rw [List.getElem?_eq_getElem hbo] at hz; simpa using hz
 have hw' : zi[m] = (w, nb) := by rw [List.getElem?_eq_getElem hmi] at hw; simpa using hw
 have hz1 : zo[b].1 = z := by rw [hz']
 have hw1 : zi[m].1 = w := by rw [hw']
 have hbl : bs.length = q.regs.toNat := hok.lo (z, bs) (by rw [← hz']; exact List.getElem_mem hbo)
 have hnl : nb.length = q.regs.toNat := hok.li (w, nb) (by rw [← hw']; exact List.getElem_mem hmi)
 have hzl := hok.o
 have hil2 := hok.i
 have hset : zo.set b (z, bs) = zo := Qaqr hz
 have htk : ∀ (bs1 : List Bool), bs1.length = q.regs.toNat → (Qv bs1).take q.regs.toNat = Qv bs1 := fun bs1 h => List.take_of_length_le (by rw [Qaa]; omega)
 have htz : ∀ (zs : List (Nat × List Bool)), zs.length = q.blocks.length → (Qbo q.regs.toNat zs).take q.blocks.length = Qbo q.regs.toNat zs := fun zs h => List.take_of_length_le (by rw [Qaw]; omega)
 rw [← hset] at kn
 obtain ⟨hyi, hyo', hzz, hww⟩ := Qaje kn hbo hz1 hmi hw'
 refine Qb Qat Qa3a ?_
 refine Qa ?_
 simp only [go_sem]
 refine Qa ?_
 simp only [go_sem, hyi, hww, htz _ hil2, htk _ hnl, Qaw, Qdf _ _ _ hmi, hw1, hmb, hil2, Qaa, hnl, Nat.zero_add, Nat.le_refl, List.nil_append, List.length_nil]
 refine ⟨.inl trivial, Qn6 _, by simp only [LIM]; omega, fun y9 hy9 H1 h1 => ?_⟩
 have kn := kn.al hy9 h1
 simp only [go_sem, Q06]
 refine Qa ?_
 simp only [go_sem]
 refine Q52 (rows := Ql q.blocks) (nx := gnx q) (Q4y _ q fl).s rfl (Q4y H1 q fl).x fun H2 hu => ?_
 have kn := kn.call0 hu
 rw [Qn]
 simp only [go_sem, Q08]
 refine Qbae (.mk' _ _ _ _) rfl fun r hr => ?_
 have hr := hr.idx hpe
 rw [hat] at hr
 subst hr
 simp only [go_sem, Q07]
 refine Q4 ?_
 refine Qa ?_
 simp only [go_sem]
 refine Qh (Qc (Qu (fun m1 e1 H1 => ∃ (i : Nat) (nb1 : List Bool), m1 = y.phis.length - i ∧ i ≤ y.phis.length ∧ nb1.length = q.regs.toNat ∧ Mem nb1 (fun r => I r ∨ r ∈ ((Q3 q).ea b m).take i) ∧ Kn F H1 (lvE q.regs.toNat yi yo zi (zo.set b (z, bs))) [(y9, .vec 1 (Qv nb1))] ∧
  e1 = [(2, .c (.int .i64 b)), (3, .c (.int .i64 m)), (4, .c (.pp [.int .i64 q.params, .int .i64 q.regs, .sl fl 5 (Ql q.blocks)])), (5, .c (.pp [.vsl yi 1 0 q.blocks.length, .vsl yo 1 0 q.blocks.length])), (9, .c (.vsl y9 1 0 q.regs.toNat)), (10, .c (.int .i64 at_)), (11, .c (.int .i64 i))]) y.phis.length ?_ ?_))
 ·exact ⟨0, nb, by omega, by omega, hnl, hI.congr fun r => by simp, kn, rfl⟩
 ·rintro m1 e1 H3 ⟨i, nb1, hm1, hi, hnl, hN, kn, rfl⟩
  have hy9 := kn.l 0 rfl
  refine Q4 ?_
  refine Qa ?_
  simp only [go_sem, hmb, Qn, Q5 _ _ hmb, hy, BlkD.cells, Qy]
  intro _
  refine Qh (Qd rfl ?_ ?_)
  ·intro hc
   have hlt : i < y.phis.length := by simpa using hc
   have hpal := hyo.pal _ (List.getElem_mem hlt)
   have hal : at_ < y.phis[i].args.length := by omega
   obtain ⟨hv, hvl⟩ := (hyo.pargs _ (List.getElem_mem hlt) _ (Qoj hal)).nat
   have htk2 : ((Q3 q).ea b m).take (i + 1) = ((Q3 q).ea b m).take i ++ [(y.phis[i].args.getD at_ 0).toNat] := by
    rw [List.take_succ_eq_append_getElem (by rw [hea, List.length_map]; exact hlt)]
    simp [hea]
   have hvl' : (y.phis[i].args.getD at_ 0).toNat < nb1.length := by omega
   generalize hr : (y.phis[i].args.getD at_ 0).toNat = r at *
   refine Qf ?_
   try simp only [go_sem]
   refine Qh (Qc ?_)
   refine Qq ?_
   simp only [go_sem, hmb, Qn, Q5 _ _ hmb, hy, BlkD.cells, Qy, hlt, Qa2 _ _ hlt, PhiD.cells, hal, Qg, Q6 _ _ hal, hv, hvl, hy9, htk _ hnl, Qaa, hnl, Qea, Qav _ _ hvl', Nat.zero_add, Nat.le_refl]
   intro H4 h4
   have kn := kn.stL 0 rfl h4
   refine Qq ?_
   simp only [go_sem, X.next]
   refine ⟨Qo (by omega) (by omega), y.phis.length - (i + 1), by omega, i + 1, _, rfl, by omega, by rw [List.length_set]; exact hnl, ?_, kn, rfl⟩
   refine (hN.ins (by omega)).congr fun x => ?_
   rw [htk2]
   simp only [List.mem_append, List.mem_singleton]
   constructor
   ·rintro (h | h | h)
    ·exact .inr (.inr h)
    ·exact .inl h
    ·exact .inr (.inl h)
   ·rintro (h | h | h)
    ·exact .inr (.inl h)
    ·exact .inr (.inr h)
    ·exact .inl h
  ·intro hc
   have hge : y.phis.length ≤ i := by simpa using hc
   have hN : Mem nb1 (fun r => I r ∨ r ∈ (Q3 q).ea b m) := hN.congr fun r => by rw [List.take_of_length_le (by rw [hea, List.length_map]; exact hge)]
   refine Qt ?_
   simp only [go_sem, X.next]
   refine Qa ?_
   simp only [go_sem]
   refine Q4 ?_
   refine Qa ?_
   simp only [go_sem]
   refine Qh (Qc (Qu (fun m1 e1 H1 => ∃ (i : Nat) (bs1 : List Bool) (more : Bool), m1 = q.regs.toNat - i ∧ i ≤ q.regs.toNat ∧ bs1.length = q.regs.toNat ∧ Mem bs1 (fun r => O r ∨ (r < i ∧ (I r ∨ r ∈ (Q3 q).ea b m))) ∧ (more = true → cnt bs < cnt bs1) ∧ (more = false → bs1 = bs) ∧
    Kn F H1 (lvE q.regs.toNat yi yo zi (zo.set b (z, bs1))) [(y9, .vec 1 (Qv nb1))] ∧
    e1 = [(2, .c (.int .i64 b)), (4, .c (.pp [.int .i64 q.params, .int .i64 q.regs, .sl fl 5 (Ql q.blocks)])), (5, .c (.pp [.vsl yi 1 0 q.blocks.length, .vsl yo 1 0 q.blocks.length])), (9, .c (.vsl y9 1 0 q.regs.toNat)), (12, .c (.bool more)), (13, .c (.int .i64 i))]) q.regs.toNat ?_ ?_))
   ·exact ⟨0, bs, false, by omega, by omega, hbl, hO.congr fun r => by simp, by simp, fun _ => rfl, kn, rfl⟩
   ·rintro m1 e1 H4 ⟨i, bs1, more, hm1, hi, hbl1, hB, hmt, hmf, kn, rfl⟩
    have hy9 := kn.l 0 rfl
    obtain ⟨hyi, hyo', hzz, hww⟩ := Qaje kn hbo hz1 hmi hw'
    refine Q4 ?_
    refine Qa ?_
    simp only [go_sem]
    refine Qh (Qd rfl ?_ ?_)
    ·intro hc
     have hlt : i < q.regs.toNat := by have : (i : Int) < q.regs := (by simpa using hc); omega
     have hlt' : i < nb1.length := by omega
     have hlt2 : i < bs1.length := by omega
     refine Qf ?_
     try simp only [go_sem]
     refine Qdm (fun e2 H2 => ∃ (bs2 : List Bool) (more : Bool), bs2.length = q.regs.toNat ∧ Mem bs2 (fun r => O r ∨ (r < i + 1 ∧ (I r ∨ r ∈ (Q3 q).ea b m))) ∧ (more = true → cnt bs < cnt bs2) ∧ (more = false → bs2 = bs) ∧
      Kn F H2 (lvE q.regs.toNat yi yo zi (zo.set b (z, bs2))) [(y9, .vec 1 (Qv nb1))] ∧
      lk 2 e2 = .c (.int .i64 b) ∧ lk 4 e2 = .c (.pp [.int .i64 q.params, .int .i64 q.regs, .sl fl 5 (Ql q.blocks)]) ∧ lk 5 e2 = .c (.pp [.vsl yi 1 0 q.blocks.length, .vsl yo 1 0 q.blocks.length]) ∧ lk 9 e2 = .c (.vsl y9 1 0 q.regs.toNat) ∧ lk 12 e2 = .c (.bool more) ∧ lk 13 e2 = .c (.int .i64 i)) ?_ ?_
     ·intro Q hnr _ _
      refine Qc ?_
      refine Qa ?_
      simp only [go_sem, hy9, hlt, htk _ hnl, Qaa, hnl, Qav _ _ hlt', Nat.zero_add, Nat.le_refl]
      refine Qd rfl ?_ ?_
      ·intro hc2
       have hneed := (hN i).1 hc2
       have hMem : Mem (bs1.set i true) (fun r => O r ∨ (r < i + 1 ∧ (I r ∨ r ∈ (Q3 q).ea b m))) := (hB.ins hlt2).congr fun r => by
        constructor
        ·rintro (rfl | h | h)
         ·exact .inr ⟨by omega, hneed⟩
         ·exact .inl h
         ·exact .inr ⟨by omega, h.2⟩
        ·rintro (h | h)
         ·exact .inr (.inl h)
         ·by_cases hri : r = i
          ·exact .inl hri
          ·exact .inr (.inr ⟨by omega, h.2⟩)
       have hset2 : ∀ (e : Env), lk 2 e = .c (.int .i64 b) → lk 4 e = .c (.pp [.int .i64 q.params, .int .i64 q.regs, .sl fl 5 (Ql q.blocks)]) → lk 5 e = .c (.pp [.vsl yi 1 0 q.blocks.length, .vsl yo 1 0 q.blocks.length]) → lk 9 e = .c (.vsl y9 1 0 q.regs.toNat) → lk 12 e = .c (.bool (bif more then true else !bs1.getD i false)) → lk 13 e = .c (.int .i64 i) →
         Qah prog Q76 (X.inBlock 3 Q) e H4 := by
        intro e l2 l4 l5 l9 l12 l13
        refine Qq ?_
        simp only [go_sem, l2, l4, l5, l9, l12, l13, hyo', hzz, htz _ hzl, htk _ hbl1, Qaw, Qdf _ _ _ hbo, hz1, hb, hzl, hlt, Qaa, hbl1, Qea, Qav _ _ hlt2, Nat.zero_add, Nat.le_refl]
        intro H5 h5
        refine hnr _ _ ⟨bs1.set i true, _, by rw [List.length_set]; exact hbl1, hMem, ?_, ?_, Qbam kn hbo h5, rfl, rfl, rfl, rfl, rfl, rfl⟩
        ·intro hmo
         cases hg : bs1.getD i false with
         | true =>
          rw [Qx2 hg]
          rw [hg] at hmo
          cases hmm : more with
          | true => exact hmt hmm
          | false => rw [hmm] at hmo; simp at hmo
         | false =>
          rw [Qaq7 hlt2 hg]
          cases hmm : more with
          | true => have := hmt hmm; omega
          | false => rw [hmf hmm]; omega
        ·intro hmo
         cases hmm : more with
         | true => rw [hmm] at hmo; simp at hmo
         | false =>
          rw [hmm] at hmo
          have hg : bs1.getD i false = true := by simpa using hmo
          rw [Qx2 hg]; exact hmf hmm
       cases hmm : more with
       | true =>
        refine Qa ?_
        simp only [go_sem, hyo', hzz, htz _ hzl, htk _ hbl1, Qaw, Qdf _ _ _ hbo, hz1, hb, hzl, hlt, Qaa, hbl1, Qav _ _ hlt2, Nat.zero_add, Nat.le_refl]
        exact hset2 _ rfl rfl rfl rfl (by rw [hmm]; rfl) rfl
       | false =>
        refine Qa ?_
        simp only [go_sem, hyo', hzz, htz _ hzl, htk _ hbl1, Qaw, Qdf _ _ _ hbo, hz1, hb, hzl, hlt, Qaa, hbl1, Qav _ _ hlt2, Nat.zero_add, Nat.le_refl]
        exact hset2 _ rfl rfl rfl rfl (by rw [hmm]; rfl) rfl
      ·intro hc2
       refine Qf ?_
       try simp only [go_sem]
       refine hnr _ _ ⟨bs1, more, hbl1, hB.congr fun r => ?_, hmt, hmf, kn, rfl, rfl, rfl, rfl, rfl, rfl⟩
       constructor
       ·rintro (h | h)
        ·exact .inl h
        ·exact .inr ⟨by omega, h.2⟩
       ·rintro (h | h)
        ·exact .inl h
        ·by_cases hri : r = i
         ·subst hri
          have := (hN r).2 h.2
          rw [this] at hc2; exact absurd hc2 (by simp)
         ·exact .inr ⟨by omega, h.2⟩
     ·rintro e2 H5 ⟨bs2, more2, hbl2, hB2, hmt2, hmf2, kn, l2, l4, l5, l9, l12, l13⟩
      refine Qq ?_
      simp only [go_sem, X.next, l2, l4, l5, l9, l12, l13]
      exact ⟨Qo (by omega) (by omega), q.regs.toNat - (i + 1), by omega, i + 1, bs2, more2, rfl, by omega, hbl2, hB2, hmt2, hmf2, kn, rfl⟩
    ·intro hc
     have hge : q.regs.toNat ≤ i := by have : q.regs ≤ (i : Int) := (by simpa using hc); omega
     refine Qt ?_
     simp only [go_sem, X.next]
     refine Qa ?_
     simp only [go_sem]
     refine Qj ?_
     simp only [go_sem, Qz, Qac, Qanj, List.mem_singleton, forall_eq, RS.op]
     refine hK bs1 more H4 hbl1 (hB.congr fun r => ?_) hmt hmf (kn.drop (A := []))
     constructor
     ·rintro (h | h)
      ·exact .inl h
      ·exact .inr h.2
     ·rintro (h | h)
      ·exact .inl h
      ·have : r < nb1.length := hN.lt h
       exact .inr ⟨by omega, h⟩
end Go.AE.Y

namespace Go.AE.Y
attribute [local go_sem] cond_true cond_false Bool.not_true Bool.not_false
open Go.Proofs.Tryz
variable {H H0 F : Heap} {K : V → Heap → Prop} {E L : List (Nat × Obj)}
def Qe2 (zs : List (Nat × List Bool)) : List (List C) := zs.map fun p => [.sl false 1 (Qv p.2)]
theorem Qa31 (zs : List (Nat × List Bool)) : (Qe2 zs).length = zs.length := by simp [Qe2]
theorem Qazr (zs : List (Nat × List Bool)) (i : Nat) (h : i < zs.length) : (Qe2 zs).getD i [] = [.sl false 1 (Qv zs[i].2)] := by simp [Qe2, List.getD_eq_getElem?_getD, h]
theorem Qanr {S : Nat → Bool} {R : Nat} {zs : List (Nat × List Bool)} (hl : ∀ p ∈ zs, p.2.length = R) (hH : ∀ p ∈ obZ zs, H p.1 = p.2 ∧ S p.1 = true) : FrzR H S (Qbo R zs) (Qe2 zs) := by
 induction zs with
 | nil => exact .nil
 | cons z zs ih =>
  have h1 := hH (z.1, .vec 1 (Qv z.2)) (by simp [obZ])
  refine .cons (.cons ?_ .nil) (ih (fun p hp => hl p (List.mem_cons_of_mem _ hp)) fun p hp => hH p (by simp only [obZ, List.map_cons]; exact List.mem_cons_of_mem _ hp))
  exact (FrzR.same (Qn6 _)).vsl h1.2 h1.1 (by rw [Qaa]; exact (hl z List.mem_cons_self).symm)
theorem Qa8o {α : Type} {l : List α} {i : Nat} {x : α} (h : i < l.length) : (l ++ [x]).Perm (l.set i x ++ [l[i]]) := by
 have e : ∀ (m : List α) (hm : i < m.length), m.Perm (m[i] :: m.eraseIdx i) := fun m hm => by
  have h1 : (m[i] :: m.eraseIdx i).Perm m := by
   rw [List.eraseIdx_eq_take_drop_succ]
   refine List.perm_middle.symm.trans ?_
   rw [← List.drop_eq_getElem_cons hm, List.take_append_drop]
  exact h1.symm
 have h1 := e l h
 have h2 := e (l.set i x) (by simpa using h)
 simp only [List.getElem_set_self, List.eraseIdx_set_eq] at h2
 refine (h1.append_right [x]).trans ?_
 refine List.Perm.trans ?_ (h2.append_right [l[i]]).symm
 simp only [List.cons_append]
 refine (List.Perm.cons _ List.perm_append_comm).trans ?_
 refine List.Perm.trans ?_ (List.Perm.cons _ List.perm_append_comm)
 exact List.Perm.swap _ _ _
def Qbca (q : CodeD) (zi zo : List (Nat × List Bool)) : Prop := lvOk q.regs.toNat q.blocks.length zi zo ∧ ∀ b, b < q.blocks.length → ∀ r, (tab zi b r ↔ (Q3 q).LI b r) ∧ (tab zo b r ↔ (Q3 q).LO b r)
theorem Qar5 {zs : List (Nat × List Bool)} {b : Nat} (h : b < zs.length) : Mem zs[b].2 (tab zs b) := fun r => (Qa5q h r).symm
theorem Q6z (n r : Nat) : (List.replicate n false).getD r false = false := by
 rw [List.getD_eq_getElem?_getD, List.getElem?_replicate]; split <;> rfl
def Qr4 (x2 x3 yi yo n : Nat) : List (Nat × Obj) := [(x2, .st [.sl true 1 [], .sl true 1 []]), (x3, .st [.vsl yi 1 0 n, .vsl yo 1 0 n])]
set_option maxHeartbeats 4000000 in
theorem Qa2u {q : CodeD} {fl : Bool} (ho : q.ok)
  (hK : ∀ (zi zo : List (Nat × List Bool)) H', Upd H H' [] → Qbca q zi zo → K (.ag [.sl false 1 (Qe2 zi), .sl false 1 (Qe2 zo)]) H') :
  Qp prog Qyg [.ag [.int .i64 q.params, .int .i64 q.regs, .sl fl 5 (Ql q.blocks)]] H K := by
 have hr0 := ho.r0
 have hr1 := ho.r1
 have hb0 := ho.b0
 have hb1 := ho.b1
 have hfit := ho.fitsF
 have hFn : (Q3 q).n = q.blocks.length := rfl
 obtain ⟨R, hR⟩ : ∃ R, q.regs.toNat = R := ⟨_, rfl⟩
 obtain ⟨n, hn⟩ : ∃ n, q.blocks.length = n := ⟨_, rfl⟩
 have hRq : q.regs = (R : Int) := by omega
 refine Q0 ?_
 refine Qb Qat Qa3c ?_
 refine Qa ?_
 simp only [go_sem]
 intro x2 hx2 H1 h1
 have kn := (Kn.start0 H).al hx2 h1
 refine Qa ?_
 simp only [go_sem]
 intro x3 hx3 H2 h2
 have kn := kn.al hx3 h2
 have hx3 := kn.l 1 rfl
 simp only [go_sem, Q1b, hx3]
 intro H3 h3
 have kn : Kn H H3 [] [(x2, .st [.sl true 1 [], .sl true 1 []]), (x3, .st [.sl true 1 [], .sl true 1 []])] := kn.stL 1 rfl h3
 refine Qa ?_
 simp only [go_sem, Qn, hn]
 intro _
 refine Q4 ?_
 refine Qa ?_
 simp only [go_sem]
 refine Qh (Qc (Qu (fun m e1 H1 => ∃ (i : Nat) (zi zo : List (Nat × List Bool)) (ci co : C) (Li Lo : List (Nat × Obj)), m = n - i ∧ i ≤ n ∧ zi.length = i ∧ zo.length = i ∧ (∀ p ∈ zi, p.2 = List.replicate R false) ∧ (∀ p ∈ zo, p.2 = List.replicate R false) ∧
  Gr Li 1 (Qbo R zi) ci ∧ Gr Lo 1 (Qbo R zo) co ∧ Kn H H1 [] ([(x2, .st [.sl true 1 [], .sl true 1 []]), (x3, .st [ci, co])] ++ (obZ zi ++ (obZ zo ++ (Li ++ Lo)))) ∧
  e1 = [(1, .c (.pp [.int .i64 q.params, .int .i64 q.regs, .sl fl 5 (Ql q.blocks)])), (2, .c (.ptr x2 0)), (3, .c (.ptr x3 0)), (4, .c (.int .i64 n)), (5, .c (.int .i64 i))]) n ?_ ?_))
 ·exact ⟨0, [], [], _, _, [], [], by omega, by omega, rfl, rfl, by simp, by simp, .nil 1, .nil 1, kn, rfl⟩
 ·rintro m e1 H4 ⟨i, zi, zo, ci, co, Li, Lo, hm, hi, hzil, hzol, hzi, hzo, hgi, hgo, kn, rfl⟩
  refine Q4 ?_
  refine Qa ?_
  simp only [go_sem]
  refine Qh (Qd rfl ?_ ?_)
  ·intro hc
   have hlt : i < n := by simpa using hc
   have hciw := hgi.isOw
   have hcow := hgo.isOw
   have hx3 := kn.l 1 rfl
   refine Qf ?_
   try simp only [go_sem]
   refine Qh (Qc ?_)
   refine Qan ?_
   simp only [go_sem, hx3, hciw, hcow]
   refine ⟨by omega, by simp only [LIM]; omega, fun y1 hy1 H5 h5 => ?_⟩
   have kn : Kn H H5 [] (([(x2, .st [.sl true 1 [], .sl true 1 []]), (x3, .st [ci, co])] ++ (obZ (zi ++ [(y1, List.replicate R false)]) ++ (obZ zo ++ Lo))) ++ Li) :=
    (kn.al hy1 h5).perm (Qr fun f hf h0 hc hp => by
     have hc' := hc (x2, .st [.sl true 1 [], .sl true 1 []]) [(x3, .st [ci, co])]
     simp only [hf, obZ, List.map_append, List.map_cons, List.map_nil, Qis, hR]; omega)
   have hx3 := kn.l 1 rfl
   simp only [go_sem, Q1d, hx3, hciw, hcow]
   refine kn.growR hgi (.mk' _ _ _ _) (by intro r hr; simp at hr; subst hr; rfl) (by simp only [LIM, Qaw, List.length_cons, List.length_nil]; omega) fun ci2 Li2 H6 hgi2 hciw2 kn => ?_
   have hx3 := kn.l 1 rfl
   simp only [go_sem, Q1c, hx3, hciw2, hcow]
   intro H7 h7
   have kn : Kn H H7 [] ([(x2, .st [.sl true 1 [], .sl true 1 []]), (x3, .st [ci2, co])] ++ (obZ (zi ++ [(y1, List.replicate R false)]) ++ (obZ zo ++ Lo)) ++ Li2) := kn.stL 1 rfl h7
   have hgi2 : Gr Li2 1 (Qbo R (zi ++ [(y1, List.replicate R false)])) ci2 := by
    have : Qbo R (zi ++ [(y1, List.replicate R false)]) = Qbo R zi ++ [[C.vsl y1 1 0 q.regs.toNat]] := by simp [Qbo, hR]
    rw [this]; exact hgi2
   have hx3 := kn.l 1 rfl
   refine Qbw ?_
   simp only [go_sem, hx3, hciw2, hcow]
   refine ⟨by omega, by simp only [LIM]; omega, fun y2 hy2 H8 h8 => ?_⟩
   have kn : Kn H H8 [] (([(x2, .st [.sl true 1 [], .sl true 1 []]), (x3, .st [ci2, co])] ++ (obZ (zi ++ [(y1, List.replicate R false)]) ++ (obZ (zo ++ [(y2, List.replicate R false)]) ++ Li2))) ++ Lo) :=
    (kn.al hy2 h8).perm (Qr fun f hf h0 hc hp => by
     simp only [hf, obZ, List.map_append, List.map_cons, List.map_nil, Qis, hR]; omega)
   have hx3 := kn.l 1 rfl
   simp only [go_sem, Q1f, hx3, hciw2, hcow]
   refine kn.growR hgo (.mk' _ _ _ _) (by intro r hr; simp at hr; subst hr; rfl) (by simp only [LIM, Qaw, List.length_cons, List.length_nil]; omega) fun co2 Lo2 H9 hgo2 hcow2 kn => ?_
   have hx3 := kn.l 1 rfl
   simp only [go_sem, Q1e, hx3, hciw2, hcow2]
   intro H10 h10
   have kn : Kn H H10 [] ([(x2, .st [.sl true 1 [], .sl true 1 []]), (x3, .st [ci2, co2])] ++ (obZ (zi ++ [(y1, List.replicate R false)]) ++ (obZ (zo ++ [(y2, List.replicate R false)]) ++ Li2)) ++ Lo2) := kn.stL 1 rfl h10
   have hgo2 : Gr Lo2 1 (Qbo R (zo ++ [(y2, List.replicate R false)])) co2 := by
    have : Qbo R (zo ++ [(y2, List.replicate R false)]) = Qbo R zo ++ [[C.vsl y2 1 0 q.regs.toNat]] := by simp [Qbo, hR]
    rw [this]; exact hgo2
   refine Qq ?_
   simp only [go_sem, X.next]
   refine ⟨Qo (by omega) (by omega), n - (i + 1), by omega, i + 1, zi ++ [(y1, List.replicate R false)], zo ++ [(y2, List.replicate R false)], ci2, co2, Li2, Lo2, rfl, by omega, by simp [hzil], by simp [hzol], ?_, ?_, hgi2, hgo2, ?_, rfl⟩
   ·intro p hp
    rcases List.mem_append.1 hp with hp | hp
    ·exact hzi p hp
    ·simp at hp; rw [hp]
   ·intro p hp
    rcases List.mem_append.1 hp with hp | hp
    ·exact hzo p hp
    ·simp at hp; rw [hp]
   ·exact kn.perm (by simp only [List.append_assoc]; exact .refl _)
  ·intro hc
   have hin : i = n := by have : n ≤ i := (by simpa using hc); omega
   subst hin
   obtain ⟨yi, hyi, hLi⟩ : ∃ yi, ci = .vsl yi 1 0 i ∧ Li = [(yi, .vec 1 (Qbo R zi))] := by
    rcases hgi with ⟨_, h, _⟩ | ⟨y, h1, h2⟩
    ·have := congrArg List.length h; rw [Qaw, hzil] at this; simp at this; omega
    ·exact ⟨y, by rw [h1, Qaw, hzil], h2⟩
   obtain ⟨yo, hyo, hLo⟩ : ∃ yo, co = .vsl yo 1 0 i ∧ Lo = [(yo, .vec 1 (Qbo R zo))] := by
    rcases hgo with ⟨_, h, _⟩ | ⟨y, h1, h2⟩
    ·have := congrArg List.length h; rw [Qaw, hzol] at this; simp at this; omega
    ·exact ⟨y, by rw [h1, Qaw, hzol], h2⟩
   have kn : Kn H H4 [] (lvE R yi yo zi zo ++ Qr4 x2 x3 yi yo i) := by
    refine kn.perm (Qr fun f hf h0 hc hp => ?_)
    rw [hLi, hLo, hyi, hyo]
    have e1 := hc (x2, .st [.sl true 1 [], .sl true 1 []]) [(x3, .st [.vsl yi 1 0 i, .vsl yo 1 0 i])]
    have e2 := hc (yi, .vec 1 (Qbo R zi)) [(yo, .vec 1 (Qbo R zo))]
    simp only [hf, lvE, Qr4]; omega
   have hlv : lvOk R i zi zo := ⟨hzil, hzol, fun p hp => by rw [hzi p hp]; simp, fun p hp => by rw [hzo p hp]; simp⟩
   have hno : ∀ (zs : List (Nat × List Bool)), (∀ p ∈ zs, p.2 = List.replicate R false) → ∀ b r, ¬ tab zs b r := fun zs h b r hr => by
    rw [tab] at hr
    cases hg : zs[b]? with
    | none => rw [hg] at hr; simp at hr
    | some p =>
     rw [hg] at hr
     have := h p (List.mem_of_getElem? hg)
     simp only [Option.map_some, Option.getD_some, this, Q6z] at hr
     exact absurd hr (by simp)
   have hinv : LvInv (Q3 q) zi zo := ⟨fun b _ r hr => absurd hr (hno zi hzi b r), fun b _ r hr => absurd hr (hno zo hzo b r), fun b _ r hr => absurd hr (hno zi hzi b r)⟩
   refine Qt ?_
   simp only [go_sem, X.next]
   refine Q4 ?_
   refine Qa ?_
   simp only [go_sem]
   clear hno hzi hzo hgi hgo hLi hLo hyi hyo hzil hzol hm hc hi
   refine Qh (Qc (Qu (fun m e1 H1 => ∃ (zi zo : List (Nat × List Bool)) (a : Bool) (yi yo : Nat), m = (if a = true then 2 * (i * R) + 1 - (Qj9 zi + Qj9 zo) else 0) ∧ lvOk R i zi zo ∧ LvInv (Q3 q) zi zo ∧ (a = false → ∀ b, b < i → LvCl (Q3 q) zi zo b) ∧
    Kn H H1 [] (lvE R yi yo zi zo ++ Qr4 x2 x3 yi yo i) ∧
    lk 1 e1 = .c (.pp [.int .i64 q.params, .int .i64 q.regs, .sl fl 5 (Ql q.blocks)]) ∧ lk 2 e1 = .c (.ptr x2 0) ∧ lk 3 e1 = .c (.ptr x3 0) ∧ lk 4 e1 = .c (.int .i64 i) ∧ lk 6 e1 = .c (.bool a)) (2 * (i * R) + 1 - (Qj9 zi + Qj9 zo)) ?_ ?_))
   ·exact ⟨zi, zo, true, yi, yo, rfl, hlv, hinv, fun h => by simp at h, kn, rfl, rfl, rfl, rfl, rfl⟩
   ·clear hlv hinv kn
    rintro m e1 H5 ⟨zi, zo, a, yi, yo, hm, hlv, hinv, hcl, kn, l1, l2, l3, l4, l6⟩
    have htl0 := Qamb hlv.li
    have hto0 := Qamb hlv.lo
    rw [hlv.i] at htl0
    rw [hlv.o] at hto0
    refine Q4 ?_
    refine Qa ?_
    simp only [go_sem, l1, l2, l3, l4, l6]
    refine Qh (Qd rfl ?_ ?_)
    ·intro hat
     rw [hat, if_pos rfl] at hm
     refine Qf ?_
     try simp only [go_sem]
     refine Qc ?_
     refine Qa ?_
     simp only [go_sem]
     refine Qa ?_
     simp only [go_sem]
     refine ⟨Qo (by omega) (by omega), ?_⟩
     clear hcl
     refine Qc (Qu (fun m1 e1 H1 => ∃ (k : Nat) (j : Int) (zi1 zo1 : List (Nat × List Bool)) (a : Bool) (yi yo : Nat), m1 = k ∧ k ≤ i ∧ j = (k : Int) - 1 ∧ lvOk R i zi1 zo1 ∧ LvInv (Q3 q) zi1 zo1 ∧ Qj9 zi + Qj9 zo ≤ Qj9 zi1 + Qj9 zo1 ∧
      (a = true → Qj9 zi + Qj9 zo < Qj9 zi1 + Qj9 zo1) ∧ (a = false → ∀ b, k ≤ b → b < i → LvCl (Q3 q) zi1 zo1 b) ∧
      Kn H H1 [] (lvE R yi yo zi1 zo1 ++ Qr4 x2 x3 yi yo i) ∧
      e1 = [(1, .c (.pp [.int .i64 q.params, .int .i64 q.regs, .sl fl 5 (Ql q.blocks)])), (2, .c (.ptr x2 0)), (3, .c (.ptr x3 0)), (4, .c (.int .i64 i)), (6, .c (.bool a)), (7, .c (.int .i64 j))]) i ?_ ?_)
     ·exact ⟨i, _, zi, zo, false, yi, yo, rfl, Nat.le_refl _, rfl, hlv, hinv, Nat.le_refl _, fun h => by simp at h, fun _ b h1 h2 => by omega, kn, rfl⟩
     ·have hTb : Qj9 zi + Qj9 zo ≤ 2 * (i * R) := by omega
      generalize hT0 : Qj9 zi + Qj9 zo = T0 at *
      clear hinv hlv kn hto0 htl0 hT0
      clear zi zo yi yo
      rintro m1 e1 H6 ⟨k, j, zi, zo, a, yi, yo, rfl, hk, hjk, hlv, hinv, htot, htt, htf, kn, rfl⟩
      have htl0 := Qamb hlv.li
      have hto0 := Qamb hlv.lo
      rw [hlv.i] at htl0
      rw [hlv.o] at hto0
      refine Q4 ?_
      refine Qa ?_
      simp only [go_sem]
      refine Qh (Qd rfl ?_ ?_)
      ·intro hc
       have hge : 0 ≤ j := by simpa using hc
       obtain ⟨b, rfl⟩ : ∃ b, m1 = b + 1 := ⟨m1 - 1, by omega⟩
       have hj : j = (b : Int) := by omega
       subst hj
       have hbn : b < i := by omega
       have hbq : b < q.blocks.length := by omega
       have hbo : b < zo.length := by rw [hlv.o]; exact hbn
       have hbi : b < zi.length := by rw [hlv.i]; exact hbn
       obtain ⟨⟨z, bs⟩, hz⟩ : ∃ p, zo[b] = p := ⟨_, rfl⟩
       obtain ⟨⟨w, bw⟩, hw⟩ : ∃ p, zi[b] = p := ⟨_, rfl⟩
       have hz' : zo[b]? = some (z, bs) := by rw [List.getElem?_eq_getElem hbo, hz]
       have hw' : zi[b]? = some (w, bw) := by rw [List.getElem?_eq_getElem hbi, hw]
       have hbsl : bs.length = R := hlv.lo (z, bs) (by rw [← hz]; exact List.getElem_mem hbo)
       have hbwl : bw.length = R := hlv.li (w, bw) (by rw [← hw]; exact List.getElem_mem hbi)
       have hmo : Mem bs (tab zo b) := by have := Qar5 hbo; rw [hz] at this; exact this
       have hzs : zo.set b (z, bs) = zo := Qaqr hz'
       obtain ⟨y, hy⟩ : ∃ y, q.blocks[b] = y := ⟨_, rfl⟩
       have hyo : y.ok q b := by rw [← hy]; exact ho.bs b hbq
       have hil : y.ins.length ≤ 800 ∧ y.phis.length ≤ 800 := by rw [← hy]; exact ho.il b hbq
       have hnx : (Q3 q).nx b = y.next.map Int.toNat := by rw [← hy, ← Qahp hbq]; rfl
       have hph : (Q3 q).ph b = y.phis.map fun p => p.to.toNat := by rw [Qaxq hbq, hy]
       refine Qf ?_
       try simp only [go_sem]
       refine Qdm (fun e2 H2 => ∃ (zi2 zo2 : List (Nat × List Bool)) (a2 : Bool) (yi yo : Nat), lvOk R i zi2 zo2 ∧ LvInv (Q3 q) zi2 zo2 ∧ Qj9 zi + Qj9 zo ≤ Qj9 zi2 + Qj9 zo2 ∧
        (a2 = true → a = true ∨ Qj9 zi + Qj9 zo < Qj9 zi2 + Qj9 zo2) ∧ (a2 = false → a = false ∧ LvCl (Q3 q) zi2 zo2 b ∧ ∀ c, LvCl (Q3 q) zi zo c → LvCl (Q3 q) zi2 zo2 c) ∧
        Kn H H2 [] (lvE R yi yo zi2 zo2 ++ Qr4 x2 x3 yi yo i) ∧
        lk 1 e2 = .c (.pp [.int .i64 q.params, .int .i64 q.regs, .sl fl 5 (Ql q.blocks)]) ∧ lk 2 e2 = .c (.ptr x2 0) ∧ lk 3 e2 = .c (.ptr x3 0) ∧ lk 4 e2 = .c (.int .i64 i) ∧ lk 6 e2 = .c (.bool a2) ∧ lk 7 e2 = .c (.int .i64 b)) ?_ ?_
       ·intro Q hnr _ _
        refine Qc ?_
        refine Q4 ?_
        refine Qa ?_
        simp only [go_sem]
        refine Qh (Qc (Qu (fun m2 e1 H1 => ∃ (i2 : Nat) (bs1 : List Bool) (a1 : Bool), m2 = y.next.length - i2 ∧ i2 ≤ y.next.length ∧ bs1.length = R ∧ (∀ r, bs.getD r false = true → bs1.getD r false = true) ∧ (∀ r, bs1.getD r false = true → (Q3 q).LO b r) ∧
         (∀ m ∈ ((Q3 q).nx b).take i2, ∀ r, tab zi m r ∨ r ∈ (Q3 q).ea b m → bs1.getD r false = true) ∧ (a1 = true → a = true ∨ cnt bs < cnt bs1) ∧ (a1 = false → a = false ∧ bs1 = bs) ∧
         Kn H H1 [] (lvE R yi yo zi (zo.set b (z, bs1)) ++ Qr4 x2 x3 yi yo i) ∧
         e1 = [(1, .c (.pp [.int .i64 q.params, .int .i64 q.regs, .sl fl 5 (Ql q.blocks)])), (2, .c (.ptr x2 0)), (3, .c (.ptr x3 0)), (4, .c (.int .i64 i)), (6, .c (.bool a1)), (7, .c (.int .i64 b)), (8, .c (.int .i64 i2))]) y.next.length ?_ ?_))
        ·exact ⟨0, bs, a, by omega, by omega, hbsl, fun r h => h, fun r h => hinv.bo b hbq r ((hmo r).1 h), by simp, fun h => .inl h, fun h => ⟨h, rfl⟩, by rw [hzs]; exact kn, rfl⟩
        ·rintro m2 e1 H7 ⟨i2, bs1, a1, hm2, hi2, hb1l, g1, g2, g3, k1, k2, kn, rfl⟩
         have hx3 : H7 x3 = .st [.vsl yi 1 0 i, .vsl yo 1 0 i] := (kn.get (x3, .st [.vsl yi 1 0 i, .vsl yo 1 0 i]) (by simp [Qr4])).1
         refine Q4 ?_
         refine Qa ?_
         simp only [go_sem, hbq, Qn, Q5 _ _ hbq, hy, BlkD.cells, Qg]
         intro _
         refine Qh (Qd rfl ?_ ?_)
         ·intro hc2
          have hlt : i2 < y.next.length := by simpa using hc2
          have hnl2 := hyo.nxl
          have hgd : y.next.getD i2 0 = y.next[i2] := by simp [List.getD_eq_getElem?_getD, hlt]
          have hmx : y.next[i2] ∈ gnx q b := by rw [Qahp hbq, hy]; exact List.getElem_mem hlt
          have hmr := hyo.nx _ (List.getElem_mem hlt)
          obtain ⟨mm, hmm⟩ := Int.eq_ofNat_of_zero_le (show 0 ≤ y.next[i2] by omega)
          have hmi : mm < zi.length := by rw [hlv.i]; omega
          have hmF : mm ∈ (Q3 q).nx b := by rw [hnx]; exact List.mem_map.2 ⟨y.next[i2], List.getElem_mem hlt, by rw [hmm]; rfl⟩
          have htk : ((Q3 q).nx b).take (i2 + 1) = ((Q3 q).nx b).take i2 ++ [mm] := by
           rw [List.take_succ_eq_append_getElem (by rw [hnx, List.length_map]; exact hlt)]
           congr 1
           simp only [hnx, List.getElem_map, hmm]; rfl
          rw [hmm] at hmx hgd
          have hbo' : b < (zo.set b (z, bs1)).length := by simpa using hbo
          have hlv' : lvOk R i zi (zo.set b (z, bs1)) := ⟨hlv.i, by rw [List.length_set]; exact hlv.o, hlv.li, fun p hp => by
           rcases List.mem_or_eq_of_mem_set hp with hp | rfl
           ·exact hlv.lo p hp
           ·exact hb1l⟩
          refine Qf ?_
          try simp only [go_sem]
          refine Qh (Qc ?_)
          refine Qbw ?_
          simp only [go_sem, hx3, hbq, Qn, Q5 _ _ hbq, hy, BlkD.cells, hlt, Qg, Q6 _ _ hlt, hgd]
          subst hR
          subst hn
          refine Qa2s (F := H7) (z := z) (bs := bs1) (w := zi[mm].1) (nb := zi[mm].2) (O := fun r => bs1.getD r false = true) (I := tab zi mm) ho hbq hmx hlv' (by rw [List.getElem?_set_self hbo]) (by rw [List.getElem?_eq_getElem hmi]) (fun r => Iff.rfl) (Qar5 hmi) kn.mid fun bs2 f H8 hb2l hm2' hf1 hf2 k2' => ?_
          rw [List.set_set] at k2'
          have kn := (kn.comp k2' Qbal).drop
          have stepT : ∀ a1', (a1' = (f || a1)) → ∃ m, m < m2 ∧ ∃ (i5 : Nat) (bs1 : List Bool) (a1 : Bool), m = y.next.length - i5 ∧ i5 ≤ y.next.length ∧ bs1.length = q.regs.toNat ∧ (∀ r, bs.getD r false = true → bs1.getD r false = true) ∧ (∀ r, bs1.getD r false = true → (Q3 q).LO b r) ∧
            (∀ m ∈ ((Q3 q).nx b).take i5, ∀ r, tab zi m r ∨ r ∈ (Q3 q).ea b m → bs1.getD r false = true) ∧ (a1 = true → a = true ∨ cnt bs < cnt bs1) ∧ (a1 = false → a = false ∧ bs1 = bs) ∧
            Kn H H8 [] (lvE q.regs.toNat yi yo zi (zo.set b (z, bs1)) ++ Qr4 x2 x3 yi yo q.blocks.length) ∧
            [(1, V.c (.pp [.int .i64 q.params, .int .i64 q.regs, .sl fl 5 (Ql q.blocks)])), (2, .c (.ptr x2 0)), (3, .c (.ptr x3 0)), (4, .c (.int .i64 q.blocks.length)), (6, .c (.bool a1')), (7, .c (.int .i64 b)), (8, .c (.int .i64 ((i2 : Int) + 1)))] = [(1, .c (.pp [.int .i64 q.params, .int .i64 q.regs, .sl fl 5 (Ql q.blocks)])), (2, .c (.ptr x2 0)), (3, .c (.ptr x3 0)), (4, .c (.int .i64 q.blocks.length)), (6, .c (.bool a1)), (7, .c (.int .i64 b)), (8, .c (.int .i64 i5))] := by
           intro a1' ha1'
           refine ⟨y.next.length - (i2 + 1), by omega, i2 + 1, bs2, a1', rfl, by omega, hb2l, fun r hr => (hm2' r).2 (.inl (g1 r hr)), fun r hr => ?_, fun m hm r hr => ?_, fun ha => ?_, fun ha => ?_, kn, rfl⟩
           ·rcases (hm2' r).1 hr with h | h | h
            ·exact g2 r h
            ·exact ⟨mm, hmF, .inl (hinv.bi mm (hfit b hbq mm hmF) r h)⟩
            ·exact ⟨mm, hmF, .inr h⟩
           ·rw [htk] at hm
            rcases List.mem_append.1 hm with hm | hm
            ·exact (hm2' r).2 (.inl (g3 m hm r hr))
            ·simp only [List.mem_singleton] at hm
             subst hm
             exact (hm2' r).2 (.inr hr)
           ·have c1 : cnt bs ≤ cnt bs1 := (Q5b (by omega) g1).1
            cases hf : f with
            | true => have := hf1 hf; right; omega
            | false =>
             rw [hf2 hf]
             rw [ha1', hf] at ha
             exact k1 (by simpa using ha)
           ·rw [ha1'] at ha
            have hff : f = false := by cases hf : f with
             | true => rw [hf] at ha; simp at ha
             | false => rfl
            rw [hff] at ha
            obtain ⟨q1, q2⟩ := k2 (by simpa using ha)
            exact ⟨q1, by rw [hf2 hff, q2]⟩
          cases hfc : f with
          | true =>
           simp only [go_sem, Qpv]
           refine Qq ?_
           simp only [go_sem, X.next]
           exact ⟨Qo (by omega) (by omega), stepT true (by rw [hfc]; rfl)⟩
          | false =>
           simp only [go_sem, Qpv]
           refine Qq ?_
           simp only [go_sem, X.next]
           exact ⟨Qo (by omega) (by omega), stepT a1 (by rw [hfc]; rfl)⟩
         ·intro hc2
          have hge2 : y.next.length ≤ i2 := by simpa using hc2
          have g3 : ∀ r, (Q3 q).outT (tab zi) b r → bs1.getD r false = true := fun r ⟨m, hm, hr⟩ =>
           g3 m (by rw [List.take_of_length_le (by rw [hnx, List.length_map]; exact hge2)]; exact hm) r hr
          refine Qt ?_
          simp only [go_sem, X.next]
          refine Qa ?_
          simp only [go_sem, hx3]
          have hbo' : b < (zo.set b (z, bs1)).length := by simpa using hbo
          obtain ⟨hyiH, hyoH, hzzH, hwwH⟩ := Qaje kn.mid hbo (by rw [hz]) hbi hw
          have hsl : Slc H7 1 (Qbo R zo) (.vsl yo 1 0 i) := ⟨by simp only [okSl, hyoH, Qaw, hlv.o]; exact ⟨trivial, by omega⟩, rfl, by simp only [rowsOf, hyoH, List.drop_zero]; exact List.take_of_length_le (by rw [Qaw, hlv.o]; exact Nat.le_refl _), by simp only [lenC, Qaw, hlv.o]⟩
          have hsb : Slc H7 1 (Qv bs1) (.vsl z 1 0 R) := ⟨by simp only [okSl, hzzH, Qaa, hb1l]; exact ⟨trivial, by omega⟩, rfl, by simp only [rowsOf, hzzH, List.drop_zero]; exact List.take_of_length_le (by rw [Qaa, hb1l]; exact Nat.le_refl _), by simp only [lenC, Qaa, hb1l]⟩
          refine Q50 (i := -1) (W := fun r => bs1.getD r false = true) ho hbq (by omega) (by omega) kn hsl rfl rfl (by rw [Qaw]; exact hbo) (by rw [Qdf _ _ _ hbo, hz]) hsb rfl (by rw [hR]; exact hb1l) (fun r => Iff.rfl) fun y9 nb0 H8 hnl0 hm0 kn => ?_
          rw [hR] at hnl0
          simp only [go_sem, Qxl, hR]
          refine Q4 ?_
          refine Qa ?_
          simp only [go_sem]
          refine Qh (Qc (Qu (fun m2 e1 H1 => ∃ (i2 : Nat) (nb : List Bool), m2 = y.phis.length - i2 ∧ i2 ≤ y.phis.length ∧ nb.length = R ∧ Mem nb (fun r => (Q3 q).beh (fun r => bs1.getD r false = true) b 0 r ∧ r ∉ ((Q3 q).ph b).take i2) ∧
           Kn H H1 [] ((lvE R yi yo zi (zo.set b (z, bs1)) ++ Qr4 x2 x3 yi yo i) ++ [(y9, .vec 1 (Qv nb))]) ∧
           e1 = [(1, .c (.pp [.int .i64 q.params, .int .i64 q.regs, .sl fl 5 (Ql q.blocks)])), (2, .c (.ptr x2 0)), (3, .c (.ptr x3 0)), (4, .c (.int .i64 i)), (6, .c (.bool a1)), (7, .c (.int .i64 b)), (9, .c (.vsl y9 1 0 R)), (10, .c (.int .i64 i2))]) y.phis.length ?_ ?_))
          ·exact ⟨0, nb0, by omega, by omega, hnl0, hm0.congr fun r => by simp, kn, rfl⟩
          ·clear hm0 hnl0 kn
           rintro m3 e1 H9 ⟨i3, nb, hm3, hi3, hnl, hmn, kn, rfl⟩
           have hy9 : H9 y9 = .vec 1 (Qv nb) := (kn.get (y9, .vec 1 (Qv nb)) (by simp)).1
           have htkn : (Qv nb).take R = Qv nb := List.take_of_length_le (by rw [Qaa]; omega)
           refine Q4 ?_
           refine Qa ?_
           simp only [go_sem, hbq, Qn, Q5 _ _ hbq, hy, BlkD.cells, Qy]
           intro _
           refine Qh (Qd rfl ?_ ?_)
           ·intro hc3
            have hlt3 : i3 < y.phis.length := by simpa using hc3
            obtain ⟨hv, hvl⟩ := (hyo.pto _ (List.getElem_mem hlt3)).nat
            rw [hR] at hvl
            have htk3 : ((Q3 q).ph b).take (i3 + 1) = ((Q3 q).ph b).take i3 ++ [(y.phis[i3].to).toNat] := by
             rw [List.take_succ_eq_append_getElem (by rw [hph, List.length_map]; exact hlt3)]
             simp [hph]
            have hvl' : (y.phis[i3].to).toNat < nb.length := by omega
            generalize hr : (y.phis[i3].to).toNat = r at *
            refine Qf ?_
            try simp only [go_sem]
            refine Qh (Qc ?_)
            refine Qq ?_
            simp only [go_sem, hbq, Qn, Q5 _ _ hbq, hy, BlkD.cells, hlt3, Qy, Qa2 _ _ hlt3, PhiD.cells, hv, hvl, hy9, htkn, Qaa, hnl, Qea, Qav _ _ hvl', Nat.zero_add, Nat.le_refl]
            intro H10 h10
            have kn := kn.stL (lvE R yi yo zi (zo.set b (z, bs1)) ++ Qr4 x2 x3 yi yo i).length (x := y9) (o := .vec 1 (Qv nb)) (by simp) h10
            refine Qq ?_
            simp only [go_sem, X.next]
            refine ⟨Qo (by omega) (by omega), y.phis.length - (i3 + 1), by omega, i3 + 1, nb.set r false, rfl, by omega, by rw [List.length_set]; exact hnl, ?_, by simpa using kn, rfl⟩
            refine (hmn.del hvl').congr fun x => ?_
            rw [htk3]
            simp only [List.mem_append, List.mem_singleton, not_or, and_assoc]
           ·intro hc3
            have hge3 : y.phis.length ≤ i3 := by simpa using hc3
            have hmn : Mem nb ((Q3 q).thru (fun r => bs1.getD r false = true) b) := hmn.congr fun r => by rw [List.take_of_length_le (by rw [hph, List.length_map]; exact hge3)]; rfl
            refine Qt ?_
            simp only [go_sem, X.next]
            refine Q4 ?_
            refine Qa ?_
            simp only [go_sem]
            refine Qh (Qc (Qu (fun m4 e1 H1 => ∃ (i4 : Nat) (a2 : Bool), m4 = R - i4 ∧ i4 ≤ R ∧ H1 = H9 ∧ (a2 = true → a1 = true ∨ ∃ r, nb.getD r false ≠ bw.getD r false) ∧ (a2 = false → a1 = false ∧ ∀ r, r < i4 → nb.getD r false = bw.getD r false) ∧
             e1 = [(1, .c (.pp [.int .i64 q.params, .int .i64 q.regs, .sl fl 5 (Ql q.blocks)])), (2, .c (.ptr x2 0)), (3, .c (.ptr x3 0)), (4, .c (.int .i64 i)), (6, .c (.bool a2)), (7, .c (.int .i64 b)), (9, .c (.vsl y9 1 0 R)), (11, .c (.int .i64 i4))]) R ?_ ?_))
            ·exact ⟨0, a1, by omega, by omega, rfl, fun h => .inl h, fun h => ⟨h, fun r hr => by omega⟩, rfl⟩
            ·have hx3 : H9 x3 = .st [.vsl yi 1 0 i, .vsl yo 1 0 i] := (kn.get (x3, .st [.vsl yi 1 0 i, .vsl yo 1 0 i]) (by simp [Qr4])).1
             have knA := kn.drop
             obtain ⟨hyiH, hyoH, hzzH, hwwH⟩ := Qaje knA.mid hbo (by rw [hz]) hbi hw
             rintro m4 e1 H10 ⟨i4, a2, hm4, hi4, rfl, k3, k4, rfl⟩
             have htz : ∀ (zs : List (Nat × List Bool)), zs.length = i → (Qbo R zs).take i = Qbo R zs := fun zs h => List.take_of_length_le (by rw [Qaw]; omega)
             have htb : ∀ (bs : List Bool), bs.length = R → (Qv bs).take R = Qv bs := fun bs h => List.take_of_length_le (by rw [Qaa]; omega)
             have hw1 : zi[b].1 = w := by rw [hw]
             have hil3 := hlv.i
             refine Q4 ?_
             refine Qa ?_
             simp only [go_sem]
             refine Qh (Qd rfl ?_ ?_)
             ·intro hc4
              have hlt4 : i4 < R := by have : (i4 : Int) < q.regs := (by simpa using hc4); omega
              have hln4 : i4 < nb.length := by omega
              have hlw4 : i4 < bw.length := by omega
              refine Qf ?_
              try simp only [go_sem]
              refine Qdm (fun e2 H2 => ∃ (a3 : Bool), H2 = H10 ∧ (a3 = true → a2 = true ∨ nb.getD i4 false ≠ bw.getD i4 false) ∧ (a3 = false → a2 = false ∧ nb.getD i4 false = bw.getD i4 false) ∧
               lk 1 e2 = .c (.pp [.int .i64 q.params, .int .i64 q.regs, .sl fl 5 (Ql q.blocks)]) ∧ lk 2 e2 = .c (.ptr x2 0) ∧ lk 3 e2 = .c (.ptr x3 0) ∧ lk 4 e2 = .c (.int .i64 i) ∧ lk 6 e2 = .c (.bool a3) ∧ lk 7 e2 = .c (.int .i64 b) ∧ lk 9 e2 = .c (.vsl y9 1 0 R) ∧ lk 11 e2 = .c (.int .i64 i4)) ?_ ?_
              ·intro Q hnr _ _
               refine Qc ?_
               cases ha2 : a2 with
               | true =>
                refine Qbw ?_
                simp only [go_sem, hx3, hyiH, hwwH, hy9, htz _ hil3, htb _ hnl, htb _ hbwl, Qaw, Qdf _ _ _ hbi, hw1, hbn, hil3, hlt4, Qaa, hnl, hbwl, Qav _ _ hln4, Qav _ _ hlw4, Nat.zero_add, Nat.le_refl]
                exact hnr _ _ ⟨true, rfl, fun _ => .inl ha2, fun h => by simp at h, rfl, rfl, rfl, rfl, rfl, rfl, rfl, rfl⟩
               | false =>
                refine Qbw ?_
                simp only [go_sem, hx3, hyiH, hwwH, hy9, htz _ hil3, htb _ hnl, htb _ hbwl, Qaw, Qdf _ _ _ hbi, hw1, hbn, hil3, hlt4, Qaa, hnl, hbwl, Qav _ _ hln4, Qav _ _ hlw4, Nat.zero_add, Nat.le_refl]
                refine hnr _ _ ⟨_, rfl, fun h => ?_, fun h => ?_, rfl, rfl, rfl, rfl, rfl, rfl, rfl, rfl⟩
                ·right; intro he; rw [he] at h; simp at h
                ·exact ⟨ha2, by simpa using h⟩
              ·rintro e2 H11 ⟨a3, rfl, q1, q2, l1, l2, l3, l4, l6, l7, l9, l11⟩
               refine Qq ?_
               simp only [go_sem, X.next, l1, l2, l3, l4, l6, l7, l9, l11]
               refine ⟨Qo (by omega) (by omega), R - (i4 + 1), by omega, i4 + 1, a3, rfl, by omega, fun h => ?_, fun h => ?_, rfl⟩
               ·rcases q1 h with h1 | h1
                ·exact k3 h1
                ·exact .inr ⟨i4, h1⟩
               ·obtain ⟨h1, h2⟩ := q2 h
                obtain ⟨h3, h4⟩ := k4 h1
                refine ⟨h3, fun r hr => ?_⟩
                by_cases hri : r < i4
                ·exact h4 r hri
                ·have : r = i4 := by omega
                 subst this; exact h2
             ·intro hc4
              have hge4 : i4 = R := by have : ¬ (i4 : Int) < q.regs := (by simpa using hc4); omega
              subst hge4
              refine Qt ?_
              simp only [go_sem, X.next]
              refine Qq ?_
              simp only [go_sem, hx3, hyiH, htz _ hil3, Qaw, Qdf _ _ _ hbi, hbn, hil3, Nat.zero_add, Nat.le_refl]
              intro H11 h11
              have hrow : (Qbo i4 zi).set b [.vsl y9 1 0 i4] = Qbo i4 (zi.set b (y9, nb)) := by rw [Qbo, Qbo, List.map_set]
              rw [hrow] at h11
              have hobs : obZ (zi.set b (y9, nb)) = (obZ zi).set b (y9, .vec 1 (Qv nb)) := by rw [obZ, obZ, List.map_set]
              have hmv := Qa8o (l := obZ zi) (i := b) (x := (y9, Obj.vec 1 (Qv nb))) (by simpa [obZ] using hbi)
              have kn : Kn H H11 [] ((lvE i4 yi yo (zi.set b (y9, nb)) (zo.set b (z, bs1)) ++ Qr4 x2 x3 yi yo i) ++ [(obZ zi)[b]'(by simpa [obZ] using hbi)]) := by
               have k5 : Kn H H11 [] ((([(yi, .vec 1 (Qbo i4 (zi.set b (y9, nb)))), (yo, .vec 1 (Qbo i4 (zo.set b (z, bs1))))] ++ (obZ zi ++ obZ (zo.set b (z, bs1)))) ++ Qr4 x2 x3 yi yo i) ++ [(y9, .vec 1 (Qv nb))]) := kn.stL 0 (x := yi) (o := .vec 1 (Qbo i4 zi)) rfl h11
               refine k5.perm (Qr fun f hf h0 hc hp => ?_)
               have e1 := hp _ _ hmv
               simp only [hf] at e1
               simp only [lvE, hf, hobs]
               omega
              have kn := kn.drop
              have hst := hinv.step (y := y9) hfit hbq (hlv.i.trans hn.symm) (hlv.o.trans hn.symm) hlv.li hlv.lo hb1l hnl hz' hw' g1 g2 g3 (fun r => hmn r) k1 k2 k3 k4
              obtain ⟨s1, s2, s3, s4⟩ := hst
              refine hnr _ _ ⟨zi.set b (y9, nb), zo.set b (z, bs1), a2, yi, yo, ⟨by rw [List.length_set]; exact hlv.i, by rw [List.length_set]; exact hlv.o, fun p hp => ?_, fun p hp => ?_⟩, s1, s2, s3, s4, kn, rfl, rfl, rfl, rfl, rfl, rfl⟩
              ·rcases List.mem_or_eq_of_mem_set hp with hp | rfl
               ·exact hlv.li p hp
               ·exact hnl
              ·rcases List.mem_or_eq_of_mem_set hp with hp | rfl
               ·exact hlv.lo p hp
               ·exact hb1l
       ·rintro e2 H7 ⟨zi2, zo2, a2, yi2, yo2, hlv2, hinv2, t1, t2, t3, kn, l1, l2, l3, l4, l6, l7⟩
        refine Qq ?_
        simp only [go_sem, X.next, l1, l2, l3, l4, l6, l7]
        refine ⟨Qo (by omega) (by omega), b, by omega, b, (b : Int) - 1, zi2, zo2, a2, yi2, yo2, rfl, by omega, rfl, hlv2, hinv2, by omega, fun ha => ?_, fun ha c hbc hci => ?_, kn, rfl⟩
        ·rcases t2 ha with h | h
         ·have := htt h; omega
         ·omega
        ·obtain ⟨u1, u2, u3⟩ := t3 ha
         by_cases hcb : c = b
         ·subst hcb; exact u2
         ·exact u3 c (htf u1 c (by omega) hci)
      ·intro hc
       have hlt0 : ¬ 0 ≤ j := by simpa using hc
       have hk0 : m1 = 0 := by omega
       subst hk0
       refine Qt ?_
       simp only [go_sem, X.next]
       refine ⟨if a = true then 2 * (i * R) + 1 - (Qj9 zi + Qj9 zo) else 0, ?_, zi, zo, a, yi, yo, rfl, hlv, hinv, fun ha b hb => htf ha b (by omega) hb, kn, by first | exact ⟨rfl, rfl, rfl, rfl⟩ | exact rfl | trivial⟩
       split
       ·have := htt ‹_›; omega
       ·omega
    ·intro haf
     have hcl := hcl haf
     have hdone := hinv.done hfit fun b hb => hcl b (by rw [← hn]; exact hb)
     have hx3 : H5 x3 = .st [.vsl yi 1 0 i, .vsl yo 1 0 i] := (kn.get (x3, .st [.vsl yi 1 0 i, .vsl yo 1 0 i]) (by simp [Qr4])).1
     have hx2 : H5 x2 = .st [.sl true 1 [], .sl true 1 []] := (kn.get (x2, .st [.sl true 1 [], .sl true 1 []]) (by simp [Qr4])).1
     refine Qt ?_
     simp only [go_sem, X.next]
     refine Qa ?_
     simp only [go_sem, hx2, hx3]
     intro H6 h6
     have kn : Kn H H6 [] (lvE R yi yo zi zo ++ [(x2, .st [.vsl yi 1 0 i, .vsl yo 1 0 i]), (x3, .st [.vsl yi 1 0 i, .vsl yo 1 0 i])]) := by
      have := kn.stL (lvE R yi yo zi zo).length (x := x2) (o := .st [.sl true 1 [], .sl true 1 []]) (by simp [Qr4]) h6
      simpa [Qr4] using this
     have hx2 : H6 x2 = .st [.vsl yi 1 0 i, .vsl yo 1 0 i] := (kn.get (x2, .st [.vsl yi 1 0 i, .vsl yo 1 0 i]) (by simp)).1
     have hg : ∀ p ∈ lvE R yi yo zi zo, H6 p.1 = p.2 ∧ un H p.1 = true := fun p hp => ⟨(kn.get p (List.mem_append_right _ (List.mem_append_left _ hp))).1, Qlk (kn.loc p (List.mem_append_left _ hp))⟩
     have g1 := hg (yi, .vec 1 (Qbo R zi)) (by simp [lvE])
     have g2 := hg (yo, .vec 1 (Qbo R zo)) (by simp [lvE])
     refine Qj ?_
     simp only [go_sem, Qz, Qac, Qanl, List.mem_singleton, forall_eq, RS.op, hx2]
     refine ⟨_, (FrzL.cons (FrzR.vsl g1.2 g1.1 (by rw [Qaw, hlv.i]) (Qanr hlv.li fun p hp => hg p (by simp only [lvE]; exact List.mem_append_right _ (List.mem_append_left _ hp))))
      (FrzL.cons (FrzR.vsl g2.2 g2.1 (by rw [Qaw, hlv.o]) (Qanr hlv.lo fun p hp => hg p (by simp only [lvE]; exact List.mem_append_right _ (List.mem_append_right _ hp)))) FrzL.nil)).ag, hK zi zo _ kn.fin ⟨by rw [hR, hn]; exact hlv, fun b hb => hdone b hb⟩⟩
end Go.AE.Y

namespace Go.AE.Y
attribute [local go_sem] cond_true cond_false Bool.not_true Bool.not_false
open Go.Proofs.Tryz
variable {H H0 : Heap} {K : V → Heap → Prop} {E L : List (Nat × Obj)}
def onesL (bs : List Bool) (n : Nat) : List Nat := (List.range n).filter fun r => bs.getD r false
def Qi3 (ls : List (List Nat)) : List (List C) := ls.map fun l => [.sl false 1 (Qbp l)]
theorem Qdd (ls : List (List Nat)) : (Qi3 ls).length = ls.length := by simp [Qi3]
theorem Q53 (ls : List (List Nat)) (i : Nat) (h : i < ls.length) : (Qi3 ls).getD i [] = [.sl false 1 (Qbp ls[i])] := by simp [Qi3, List.getD_eq_getElem?_getD, h]
noncomputable def insLs (q : CodeD) : List (List Nat) := (List.range q.blocks.length).map fun b => ascL q.regs.toNat ((Q3 q).LI b)
noncomputable def outsLs (q : CodeD) : List (List Nat) := (List.range q.blocks.length).map fun b => ascL q.regs.toNat ((Q3 q).LO b)
noncomputable def Qvv (q : CodeD) (b k : Nat) : List Nat := ascL q.regs.toNat ((Q3 q).LB b k)
noncomputable def codeOr (cs : List CodeD) (k : Int) (f : CodeD → List (List Nat)) : List (List Nat) := if hasG cs k = true then match cs[k.toNat]? with
 | some q => f q
 | none => [] else []
end Go.AE.Y

namespace Go.AE.Y
attribute [local go_sem] cond_true cond_false Bool.not_true Bool.not_false
open Go.Proofs.Tryz
variable {H H0 : Heap} {K : V → Heap → Prop} {E L : List (Nat × Obj)}
def mxF (f : Nat → Nat) : Nat → Nat
 | 0 => 0
 | m + 1 => max (mxF f m) (f m)
noncomputable def Qbbs (q : CodeD) (b : Nat) : Nat := mxF (fun k => (Qvv q b k).length) (((q.blocks[b]?.map BlkD.ins).getD []).length + 1)
noncomputable def Qbdg (q : CodeD) : Nat := mxF (Qbbs q) q.blocks.length
noncomputable def upTo (q : CodeD) (b k : Nat) : Nat := max (mxF (Qbbs q) b) (mxF (fun k => (Qvv q b k).length) k)
noncomputable def mostI (cs : List CodeD) (k : Int) : Int := if hasG cs k = true then match cs[k.toNat]? with
 | some q => (Qbdg q : Int)
 | none => -1 else -1
def spS (zi zo : List (Nat × List Bool)) : Obj := .st [.sl false 1 (Qe2 zi), .sl false 1 (Qe2 zo)]
end Go.AE.Y

namespace Go.AE.Y
attribute [local instance] Classical.propDecidable
def asS (S : Nat → List Nat) (b : Nat) : RS' := fun r => r ∈ S b
structure ImInv (F : Flo) (R : Nat) (S : Nat → List Nat) : Prop where
 below : F.Below (asS S)
 post : ∀ b, b < F.n → ∀ r, asS S b r → F.inT (asS S) b r
 nd : ∀ b, (S b).Nodup
 lt : ∀ b, ∀ r ∈ S b, r < R
variable {F : Flo} {R : Nat} {S : Nat → List Nat}
theorem ImInv.same {b : Nat} {ks : List Nat} (h : ImInv F R S) (hb : b < F.n) (hnd : ks.Nodup) (hks : ∀ r, r ∈ ks ↔ F.inT (asS S) b r) (hl : ks.length = (S b).length) : ∀ r, F.inT (asS S) b r → asS S b r := fun r hr =>
 Qanf (h.nd b) (fun x hx => (hks x).2 (h.post b hb x hx)) (by omega) r ((hks r).2 hr)
theorem ImInv.step {b : Nat} {ks : List Nat} (h : ImInv F R S) (hf : F.fits) (hb : b < F.n) (hnd : ks.Nodup) (hlt : ∀ r ∈ ks, r < R) (hks : ∀ r, r ∈ ks ↔ F.inT (asS S) b r) (hl : ¬ ks.length = (S b).length) :
  ImInv F R (fun c => if c = b then ks else S c) ∧ tot F.n S < tot F.n (fun c => if c = b then ks else S c) := by
 have hsub : ∀ r, r ∈ S b → r ∈ ks := fun r hr => (hks r).2 (h.post b hb r hr)
 have hle := Qku (h.nd b) hsub
 have hS : ∀ c, c < F.n → ∀ r, asS S c r → asS (fun c => if c = b then ks else S c) c r := fun c _ r hr => by
  simp only [asS]
  by_cases hc : c = b
  ·subst hc; rw [if_pos rfl]; exact hsub r hr
  ·rw [if_neg hc]; exact hr
 refine ⟨⟨fun c hc r hr => ?_, fun c hc r hr => ?_, fun c => ?_, fun c r hr => ?_⟩, Qbc1 hb (fun c hc => ?_) ?_⟩
 ·simp only [asS] at hr
  by_cases hcb : c = b
  ·subst hcb; rw [if_pos rfl] at hr; exact h.below.inT hf hb r ((hks r).1 hr)
  ·rw [if_neg hcb] at hr; exact h.below c hc r hr
 ·have h1 : F.inT (asS S) c r := by
   simp only [asS] at hr
   by_cases hcb : c = b
   ·subst hcb; rw [if_pos rfl] at hr; exact (hks r).1 hr
   ·rw [if_neg hcb] at hr; exact h.post c hc r hr
  exact Flo.inT_mono hf hS hc r h1
 ·by_cases hcb : c = b
  ·subst hcb; simpa using hnd
  ·simpa [hcb] using h.nd c
 ·by_cases hcb : c = b
  ·subst hcb; exact hlt r (by simpa using hr)
  ·exact h.lt c r (by simpa [hcb] using hr)
 ·by_cases hcb : c = b
  ·subst hcb; simpa using hle
  ·simp [hcb]
 ·simp only [if_pos]; omega
theorem ImInv.done (h : ImInv F R S) (hc : ∀ b, b < F.n → ∀ r, F.inT (asS S) b r → asS S b r) {b : Nat} (hb : b < F.n) (r : Nat) : r ∈ S b ↔ F.LI b r :=
 Flo.is_least hc h.below hb r
theorem ImInv.bound (h : ImInv F R S) : tot F.n S ≤ F.n * R := Qbc0 fun b _ => Qbz (h.nd b) (h.lt b)
theorem ImInv.start : ImInv F R fun _ => [] := ⟨fun b _ r hr => absurd hr (by simp [asS]), fun b _ r hr => absurd hr (by simp [asS]), fun _ => by simp, fun _ r hr => by simp at hr⟩
end Go.AE.Y

namespace Go.AE.Y
attribute [local go_sem] cond_true cond_false Bool.not_true Bool.not_false
open Go.Proofs.Tryz
variable {H H0 F : Heap} {K : V → Heap → Prop} {E L : List (Nat × Obj)}
variable {q : CodeD} {fl : Bool} {l yi yp : Nat} {ss : List SetO} {pr : List (List C)}
theorem Qaxn {ks : List Nat} {b R : Nat} (h : ∀ x ∈ ks, x < R) : ∀ x ∈ ks.erase b, x < R := fun x hx => h x (List.mem_of_mem_erase hx)
theorem Qahz {ks : List Nat} {b x : Nat} (h : ks.Nodup) : x ∈ ks.erase b ↔ x ∈ ks ∧ x ≠ b := by rw [List.Nodup.mem_erase_iff h, and_comm]
set_option maxHeartbeats 4000000 in
theorem Q4v {b : Nat} {i : Int} (ho : q.ok) (hb : b < q.blocks.length) (hi : -1 ≤ i) (hi2 : i < q.blocks[b].ins.length) (him : imOk q ss pr) (kn : Kn F H (imE q fl l yi yp ss pr) [])
  (hK : ∀ M ver ks H', ks.Nodup → (∀ x ∈ ks, x < q.regs.toNat) → (∀ r, r ∈ ks ↔ (Q3 q).beh ((Q3 q).outT (tabS ss) b) b (i + 1).toNat r) → Kn F H' (imE q fl l yi yp ss pr) [(M, .map ver (Qai ks))] → K (.c (.mp M)) H') :
  Qp prog Qbe [.c (.ptr l 0), .c (.int .i64 b), .c (.int .i64 i)] H K := by
 have hr0 := ho.r0
 have hr1 := ho.r1
 obtain ⟨y, hy⟩ : ∃ y, q.blocks[b] = y := ⟨_, rfl⟩
 have hyo : y.ok q b := by rw [← hy]; exact ho.bs b hb
 have hil : y.ins.length ≤ 800 ∧ y.phis.length ≤ 800 := by rw [← hy]; exact ho.il b hb
 rw [hy] at hi2
 have hon : (Q3 q).on b = if y.jump = 1 then [] else [y.on.toNat] := by rw [Qaiv hb, hy]
 have hins : (Q3 q).ins b = y.ins.map fun x => (Qom x, toN x.args) := by rw [Q5g hb, hy]
 refine Qb Qat Q2s ?_
 refine Qa ?_
 simp only [go_sem]
 refine Qa ?_
 simp only [go_sem]
 refine Qbci ho hb him kn fun M ver ks H1 hnd hlt hks kn => ?_
 generalize (Q3 q).outT (tabS ss) b = W at *
 obtain ⟨hl, _, _⟩ := Qyn kn
 simp only [go_sem, Qgp]
 refine Qa ?_
 simp only [go_sem, hl, hb, Qn, Q5 _ _ hb, BlkD.cells, hy]
 intro x8 hx8 H2 h2
 have kn := kn.al hx8 h2
 have hx8 := kn.l 1 rfl
 simp only [go_sem, Qgq, hx8]
 intro H3 h3
 have kn : Kn F H3 (imE q fl l yi yp ss pr) [(M, .map ver (Qai ks)), (x8, Q2p y)] := kn.stL 1 rfl h3
 refine Q4 ?_
 refine Qa ?_
 have hx8 : H3 x8 = .st [.sl false 2 (Q1 y.phis), .sl false 4 (Qaj y.ins), .int .i64 y.jump, .int .i64 y.on, .sl false 1 (Qe y.next)] := kn.l 1 rfl
 have hM := kn.l 0 rfl
 have hkl := Qbz hnd hlt
 simp only [go_sem, hx8]
 refine Q46 ?_
 refine Qdm (fun e2 H4 => ∃ (ver : Nat) (ks1 : List Nat), ks1.Nodup ∧ (∀ x ∈ ks1, x < q.regs.toNat) ∧ (∀ r, r ∈ ks1 ↔ (Q3 q).endS W b r) ∧ Kn F H4 (imE q fl l yi yp ss pr) [(M, .map ver (Qai ks1)), (x8, Q2p y)] ∧
  lk 2 e2 = .c (.int .i64 i) ∧ lk 7 e2 = .c (.mp M) ∧ lk 8 e2 = .c (.ptr x8 0)) ?_ ?_
 ·intro Q hnr _ _
  refine Qd rfl ?_ ?_
  ·intro hc
   have hj : ¬ y.jump = 1 := by simp at hc; omega
   obtain ⟨hv, hvl⟩ := (hyo.on hj).nat
   generalize hr : y.on.toNat = r at *
   refine Qq ?_
   simp only [go_sem, hx8, hM, hv, Qcf, Qgc, Qx5]
   refine ⟨by simp only [LIM]; omega, fun H4 h4 => ?_⟩
   have kn := kn.stL 0 rfl h4
   refine hnr _ _ ⟨_, addK ks r, Qr5 hnd, Qaip hlt hvl, fun x => ?_, kn, rfl, rfl, rfl⟩
   rw [addK_mem, hks, Flo.endS, hon, if_neg hj, List.mem_singleton]
  ·intro hc
   have hj : y.jump = 1 := by
    have := hyo.jmp
    simp at hc; omega
   refine Qf ?_
   try simp only [go_sem]
   refine hnr _ _ ⟨ver, ks, hnd, hlt, fun x => ?_, kn, rfl, rfl, rfl⟩
   rw [hks, Flo.endS, hon, if_pos hj]; simp
 ·clear hks hnd hlt kn hx8 hM hkl
  rintro e2 H4 ⟨ver, ks, hnd, hlt, hks, kn, l2, l7, l8⟩
  have hx8 : H4 x8 = .st [.sl false 2 (Q1 y.phis), .sl false 4 (Qaj y.ins), .int .i64 y.jump, .int .i64 y.on, .sl false 1 (Qe y.next)] := kn.l 1 rfl
  refine Q4 ?_
  refine Qa ?_
  simp only [go_sem, l2, l7, l8, hx8, Qab]
  intro _
  refine ⟨Qo (by omega) (by omega), ?_⟩
  refine Qh (Qc (Qu (fun m e1 H1 => ∃ (k : Nat) (j : Int) (ver : Nat) (ks : List Nat), m = k ∧ k ≤ y.ins.length ∧ i + 1 ≤ k ∧ j = (k : Int) - 1 ∧ ks.Nodup ∧ (∀ x ∈ ks, x < q.regs.toNat) ∧ (∀ r, r ∈ ks ↔ (Q3 q).beh W b k r) ∧ Kn F H1 (imE q fl l yi yp ss pr) [(M, .map ver (Qai ks)), (x8, Q2p y)] ∧
   lk 2 e1 = .c (.int .i64 i) ∧ lk 7 e1 = .c (.mp M) ∧ lk 8 e1 = .c (.ptr x8 0) ∧ lk 9 e1 = .c (.int .i64 j)) y.ins.length ?_ ?_))
  ·refine ⟨y.ins.length, _, ver, ks, rfl, Nat.le_refl _, by omega, rfl, hnd, hlt, fun r => ?_, kn, rfl, rfl, rfl, rfl⟩
   rw [hks, Flo.beh_end _ _ _ (by rw [hins, List.length_map]; exact Nat.le_refl _)]
  ·clear hks hnd hlt kn hx8 l2 l7 l8
   rintro m e1 H5 ⟨k, j, ver, ks, rfl, hk, hik, hjk, hnd, hlt, hks, kn, l2, l7, l8, l9⟩
   have hx8 : H5 x8 = .st [.sl false 2 (Q1 y.phis), .sl false 4 (Qaj y.ins), .int .i64 y.jump, .int .i64 y.on, .sl false 1 (Qe y.next)] := kn.l 1 rfl
   refine Q4 ?_
   refine Qa ?_
   simp only [go_sem, l2, l7, l8, l9]
   refine Qh (Qd rfl ?_ ?_)
   ·intro hc
    have hgt : i < j := by simpa using hc
    obtain ⟨k, rfl⟩ : ∃ k', m = k' + 1 := ⟨m - 1, by omega⟩
    have hj : j = (k : Int) := by omega
    subst hj
    have hkl : k < y.ins.length := by omega
    obtain ⟨x, hx⟩ : ∃ x, y.ins[k] = x := ⟨_, rfl⟩
    have hxm : x ∈ y.ins := by rw [← hx]; exact List.getElem_mem hkl
    have hstep : (Q3 q).beh W b k = Qa6f (Qom x, toN x.args) ((Q3 q).beh W b (k + 1)) := by
     rw [Flo.beh_step _ _ _ (by rw [hins, List.length_map]; exact hkl)]
     simp only [hins, List.getElem_map, hx]
    refine Qf ?_
    try simp only [go_sem]
    refine Qdm (fun e2 H6 => ∃ (ver : Nat) (ks : List Nat), ks.Nodup ∧ (∀ x ∈ ks, x < q.regs.toNat) ∧ (∀ r, r ∈ ks ↔ (Q3 q).beh W b k r) ∧ Kn F H6 (imE q fl l yi yp ss pr) [(M, .map ver (Qai ks)), (x8, Q2p y)] ∧
     lk 2 e2 = .c (.int .i64 i) ∧ lk 7 e2 = .c (.mp M) ∧ lk 8 e2 = .c (.ptr x8 0) ∧ lk 9 e2 = .c (.int .i64 k)) ?_ ?_
    ·intro Q hnr _ _
     refine Qc ?_
     refine Q4 ?_
     refine Qa ?_
     simp only [go_sem, hx8, hkl, Qab, Qa9 _ _ hkl, InsD.take4, InsD.allOw, InsD.len4, hx]
     refine Qahq ?_
     simp only [go_sem, Qgr]
     refine Q4 ?_
     refine Qa ?_
     simp only [go_sem]
     refine Qdm (fun e2 H6 => ∃ (ver : Nat) (ks1 : List Nat), ks1.Nodup ∧ (∀ x ∈ ks1, x < q.regs.toNat) ∧ (∀ r, r ∈ ks1 ↔ (Q3 q).beh W b (k + 1) r ∧ Qom x ≠ some r) ∧ Kn F H6 (imE q fl l yi yp ss pr) [(M, .map ver (Qai ks1)), (x8, Q2p y)] ∧
      lk 2 e2 = .c (.int .i64 i) ∧ lk 7 e2 = .c (.mp M) ∧ lk 8 e2 = .c (.ptr x8 0) ∧ lk 9 e2 = .c (.int .i64 k)) ?_ ?_
     ·intro Q hnr _ _
      refine Qd rfl ?_ ?_
      ·intro hc2
       have hmk : Qde x.op = true := by
        cases hmk : Qde x.op with
        | true => rfl
        | false => simp [Qm4, hmk] at hc2
       obtain ⟨hv, hvl⟩ := (hyo.to x hxm hmk).nat
       have hmi : Qm4 x = x.to := by rw [Qm4, hmk]; rfl
       have hmo : Qom x = some x.to.toNat := by rw [Qom, hmk]; rfl
       have hM := kn.l 0 rfl
       rw [hmi]
       rw [hmo] at hnr
       generalize hr : x.to.toNat = r at *
       refine Qq ?_
       simp only [go_sem, hM, hv, Qcf, Qgc, Qahi]
       intro H6 h6
       have kn := kn.stL 0 rfl h6
       refine hnr _ _ ⟨_, ks.erase r, hnd.erase _, Qaxn hlt, fun z => ?_, kn, rfl, rfl, rfl, rfl⟩
       rw [Qahz hnd, hks]
       simp [eq_comm]
      ·intro hc2
       have hmk : Qde x.op = false := by
        cases hmk : Qde x.op with
        | false => rfl
        | true =>
         have := (hyo.to x hxm hmk).1
         simp [Qm4, hmk] at hc2; omega
       have hmo : Qom x = none := by rw [Qom, hmk]; rfl
       rw [hmo] at hnr
       refine Qf ?_
       try simp only [go_sem]
       exact hnr _ _ ⟨ver, ks, hnd, hlt, fun z => by rw [hks]; simp, kn, rfl, rfl, rfl, rfl⟩
     ·clear hks hnd hlt kn hx8 l2 l7 l8 l9
      rintro e2 H6 ⟨ver, ks, hnd, hlt, hks, kn, l2, l7, l8, l9⟩
      have hx8 : H6 x8 = .st [.sl false 2 (Q1 y.phis), .sl false 4 (Qaj y.ins), .int .i64 y.jump, .int .i64 y.on, .sl false 1 (Qe y.next)] := kn.l 1 rfl
      have hM := kn.l 0 rfl
      refine Qq ?_
      simp only [go_sem, l2, l7, l8, l9, hx8, hkl, Qab, Qa9 _ _ hkl, InsD.cells, hx]
      refine Qbc2 (R := q.regs.toNat) hM hnd hlt (by omega) (fun v hv => by have := (hyo.args x hxm v hv); exact ⟨this.1, this.nat.2⟩) fun ver' ks' H7 hu hnd' hks' => ?_
      have kn := kn.callL 0 rfl hu (by simp)
      refine hnr _ _ ⟨ver', ks', hnd', fun z hz => ?_, fun r => ?_, kn, rfl, rfl, rfl, rfl⟩
      ·rcases (hks' z).1 hz with h | h
       ·exact hlt z h
       ·obtain ⟨v, hv, rfl⟩ := List.mem_map.1 h
        exact (hyo.args x hxm v hv).nat.2
      ·rw [hks', hks, hstep]
       exact Or.comm
    ·clear hks hnd hlt kn hx8 l2 l7 l8 l9
     rintro e2 H6 ⟨ver, ks, hnd, hlt, hks, kn, l2, l7, l8, l9⟩
     refine Qq ?_
     simp only [go_sem, l2, l7, l8, l9]
     refine ⟨Qo (by omega) (by omega), ?_⟩
     show ∃ m, _
     exact ⟨k, by omega, k, (k : Int) - 1, ver, ks, rfl, by omega, by omega, rfl, hnd, hlt, hks, kn, rfl, rfl, rfl, rfl⟩
   ·intro hc
    have hle : ¬ i < j := by simpa using hc
    refine Qt ?_
    try simp only [go_sem, X.next]
    refine Qa ?_
    simp only [go_sem, l7]
    refine Qj ?_
    simp only [go_sem, Qz, Qac, Qlp, List.mem_singleton, forall_eq, RS.op]
    have e1 : (i + 1).toNat = m := by omega
    exact hK M ver ks H5 hnd hlt (fun r => by rw [e1]; exact hks r) (kn.drop (A := [_]))
end Go.AE.Y

