/- Part 5 of the proof: the engine, codes, walks and plain laws, each named where it stands. -/
import Derived.Test.YtajdffbgjodbfaaGreatZD
import Derived.Shelf.Sort.Plain
import Derived.Shelf.Sort.So_math_bits_LenIn
open Nat (reduceEqDiff reduceAdd reduceLeDiff reduceLT)
set_option linter.unusedVariables false
set_option linter.unusedSimpArgs false
set_option maxRecDepth 4000
namespace Go.AE.Y
open Go.Proofs.Tryz
variable {F H : Heap} {w : Nat} {s : LS} {K : V → Heap → Prop}
structure LStep (s s' : LS) (d : Nat) : Prop where
 bl : s.blocks.length ≤ s'.blocks.length
 ok : ∀ N, s.ok N → s'.ok (N + d)
 vl : s.vars.length ≤ s'.vars.length
 at_ : s.at_ < s.blocks.length → s'.at_ < s'.blocks.length
 fn : s'.fns = s.fns ∧ s'.pfl = s.pfl
theorem LStep.trans {s s' s'' : LS} {d e : Nat} (h : LStep s s' d) (k : LStep s' s'' e) : LStep s s'' (d + e) :=
 ⟨Nat.le_trans h.bl k.bl, fun N hN => by rw [← Nat.add_assoc]; exact k.ok _ (h.ok N hN), Nat.le_trans h.vl k.vl, fun ha => k.at_ (h.at_ ha), k.fn.1.trans h.fn.1, k.fn.2.trans h.fn.2⟩
theorem LStep.refl (s : LS) : LStep s s 0 := ⟨Nat.le_refl _, fun N h => h, Nat.le_refl _, fun h => h, rfl, rfl⟩
theorem LStep.mono {s s' : LS} {d e : Nat} (h : LStep s s' d) (hd : d ≤ e) : LStep s s' e := ⟨h.bl, fun N hN => (h.ok N hN).mono (by omega), h.vl, h.at_, h.fn⟩
theorem fresh_c {N : Nat} (h : LInv F H w s) (hok : s.ok N) (hN : N + 1 ≤ 2^38) (hK : ∀ (s' : LS) (H' : Heap), LInv F H' w s' → LStep s s' 1 → K (.c (.int .i64 s.regs)) H') :
  ACall prog fn_l9Low_fresh [.c (.ptr w 0)] H K := by
 have hw := h.hw
 have h0 := hok.r0
 have h1 := hok.r1
 refine call_sound hmix m_l9Low_fresh ?_
 refine s_reg ?_
 simp only [go_sem]
 refine s_reg ?_
 simp only [go_sem, hw, LS.o]
 refine ⟨inR64 (by omega) (by omega), fun H1 h1' => ?_⟩
 have h' : LInv F H1 w { s with regs := s.regs + 1 } := h.setw h1' rfl rfl rfl rfl h.gv h.rv
 have hw1 := h'.hw
 refine s_reg ?_
 simp only [go_sem, hw1, LS.o]
 refine ⟨inR64 (by omega) (by omega), ?_⟩
 refine c_ret ?_
 simp only [go_sem, endQ, retT, r_l9Low_fresh, reduceIte, List.mem_singleton, forall_eq, RS.op]
 refine hK _ H1 h' ⟨Nat.le_refl _, fun M hM => ⟨?_, ?_, hM.n0, ?_, ?_, ?_, ?_⟩, Nat.le_refl _, fun h => h, rfl, rfl⟩
 ·have := hM.r0; show 0 ≤ s.regs + 1; omega
 ·have := hM.r1; show s.regs + 1 ≤ _; omega
 ·have := hM.n1; show s.next ≤ _; omega
 ·have := hM.b1; show s.blocks.length ≤ _; omega
 ·intro b hb; have := hM.i1 b hb; omega
 ·have := hM.v1; show s.vars.length ≤ _; omega
theorem block9_c' {N : Nat} (h : LInv F H w s) (hok : s.ok N) (hN : N + 1 ≤ 2^38) (hK : ∀ (s' : LS) (H' : Heap), LInv F H' w s' → LStep s s' 1 → s.blocks.length < s'.blocks.length → s'.at_ = s.at_ → K (.c (.int .i64 s.blocks.length)) H') :
  ACall prog fn_l9Low_block [.c (.ptr w 0)] H K := by
 have hw := h.hw
 have hb1 := hok.b1
 have hbow := h.gb.isOw
 refine call_sound hmix m_l9Low_block ?_
 refine s_reg ?_
 simp only [go_sem]
 refine s_reg ?_
 simp only [go_sem, hw, LS.o, hbow]
 refine h.addBlk (b := ⟨.sl true 4 [], [], [], 0, 0, true, []⟩) (by simp only [LIM]; omega) rfl rfl rfl fun y H1 hw1 cont => ?_
 simp only [go_sem, s_l9Low_block_i0, hw1, LS.o]
 intro H2 h2
 have h' := cont H2 h2
 have hw2 := h'.hw
 obtain ⟨y2, hv1, hv2, hv3⟩ := h'.bvec (by simp)
 simp only [C.vsl.injEq] at hv1
 obtain ⟨rfl, _⟩ := hv1
 refine s_reg ?_
 simp only [go_sem, hw2, LS.o, hv3, List.length_map, List.length_append]
 refine ⟨by omega, fun hl => ⟨inR64 (by omega) (by omega), ?_⟩⟩
 refine c_ret ?_
 simp only [go_sem, endQ, retT, r_l9Low_block, reduceIte, List.mem_singleton, forall_eq, RS.op]
 have e1 : (((s.blocks.length + 1 : Nat) : Int) - 1) = s.blocks.length := by omega
 rw [e1]
 refine hK _ H2 h' ⟨by simp, fun M hM => ⟨hM.r0, ?_, hM.n0, ?_, ?_, ?_, ?_⟩, Nat.le_refl _, fun ha => by simp; show s.at_ < _; omega, rfl, rfl⟩ (by simp) rfl
 ·have := hM.r1; show s.regs ≤ _; omega
 ·have := hM.n1; show s.next ≤ _; omega
 ·have := hM.b1; simp; omega
 ·intro b hb
  rcases List.mem_append.1 hb with hb | hb
  ·have := hM.i1 b hb; omega
  ·simp at hb; subst hb; simp
 ·have := hM.v1; show s.vars.length ≤ _; omega
theorem block9_c {N : Nat} (h : LInv F H w s) (hok : s.ok N) (hN : N + 1 ≤ 2^38) (hK : ∀ (s' : LS) (H' : Heap), LInv F H' w s' → LStep s s' 1 → s.blocks.length < s'.blocks.length → K (.c (.int .i64 s.blocks.length)) H') :
  ACall prog fn_l9Low_block [.c (.ptr w 0)] H K := block9_c' h hok hN fun s' H' a b c _ => hK s' H' a b c
theorem put_c {N : Nat} {op to n : Int} {fl : Bool} {args : List Int} (h : LInv F H w s) (hat : s.at_ < s.blocks.length) (hok : s.ok N) (hN : N + 1 ≤ 2^38)
  (hK : ∀ (s' : LS) (H' : Heap), LInv F H' w s' → LStep s s' 1 → K (.c (.int .i64 to)) H') :
  ACall prog fn_l9Low_put [.c (.ptr w 0), .c (.int .i64 op), .c (.int .i64 to), .c (.int .i64 n), .c (.sl fl 1 (intsOf args))] H K := by
 have hw := h.hw
 obtain ⟨y, hbc, hlb, hy⟩ := h.bvec (by omega)
 have hm := List.getElem_mem hat
 have hi1 := hok.i1 _ hm
 have hiow := (h.gi _ hm).isOw
 have hg1 : List.getD (List.map Blk.row s.blocks) s.at_ [] = s.blocks[s.at_].row := by simp [List.getD_eq_getElem?_getD, hat]
 have hg2 : List.getD (List.take s.blocks.length (List.map Blk.row s.blocks)) s.at_ [] = s.blocks[s.at_].row := by
  rw [List.take_of_length_le (by simp)]; exact hg1
 refine call_sound hmix m_l9Low_put ?_
 refine s_reg ?_
 simp only [go_sem]
 refine s_dreg ?_
 simp only [go_sem, hw, LS.o, hbc, hy, hat, Nat.zero_add, List.length_map]
 refine s_reg ?_
 simp only [go_sem, hw, LS.o, hbc, hy, hat, hg2, Blk.row, hiow, Nat.zero_add, List.length_map]
 refine h.addIns hat hbc hlb ⟨op, to, n, fl, args, rfl⟩ (by simp only [LIM]; omega) fun z H1 hw1 hy1 cont => ?_
 simp only [go_sem, s_l9Low_put_i0, hy1, hg1, hat, Blk.row, Nat.zero_add, List.length_map]
 intro H2 h2
 obtain ⟨b', hb', h'⟩ := cont H2 h2
 refine s_reg ?_
 simp only [go_sem]
 refine c_ret ?_
 simp only [go_sem, endQ, retT, r_l9Low_put, reduceIte, List.mem_singleton, forall_eq, RS.op]
 refine hK _ H2 h' ⟨by simp, fun M hM => ⟨hM.r0, ?_, hM.n0, ?_, ?_, ?_, ?_⟩, Nat.le_refl _, fun ha => by simp; show s.at_ < _; omega, rfl, rfl⟩
 ·have := hM.r1; show s.regs ≤ _; omega
 ·have := hM.n1; show s.next ≤ _; omega
 ·have := hM.b1; simp; omega
 ·intro b hb
  rcases mem_set_blk hb with rfl | hb
  ·have := hM.i1 _ hm; omega
  ·have := hM.i1 b hb; omega
 ·have := hM.v1; show s.vars.length ≤ _; omega
theorem jump_c {N : Nat} {kind on : Int} {at' : Nat} {fl : Bool} {next : List Int} (h : LInv F H w s) (hat : s.at_ < s.blocks.length) (hat' : at' < s.blocks.length)
  (hK : ∀ (s' : LS) (H' : Heap), LInv F H' w s' → LStep s s' 0 → K (.tup []) H') :
  ACall prog fn_l9Low_jump [.c (.ptr w 0), .c (.int .i64 kind), .c (.int .i64 on), .c (.sl fl 1 (intsOf next)), .c (.int .i64 at')] H K := by
 have hw := h.hw
 obtain ⟨y, hbc, hlb, hy⟩ := h.bvec (by omega)
 have hm := List.getElem_mem hat
 have hg1 : List.getD (List.map Blk.row s.blocks) s.at_ [] = s.blocks[s.at_].row := by simp [List.getD_eq_getElem?_getD, hat]
 refine call_sound hmix m_l9Low_jump ?_
 refine s_dreg ?_
 simp only [go_sem, hw, LS.o, hbc, hy, hat, Nat.zero_add, List.length_map]
 refine s_reg ?_
 simp only [go_sem, hy, hg1, hat, Blk.row, Nat.zero_add, List.length_map]
 intro H1 h1
 have h1 : H1 = H.set y (.vec 5 ((s.blocks.set s.at_ { s.blocks[s.at_] with jump := kind }).map Blk.row)) := by rw [h1, ← map_set_row]; rfl
 have hv := h.setBlk hat hbc hlb h1 rfl rfl rfl
 obtain ⟨b1, hb1, hb1l, hb1i⟩ : ∃ b1 : Blk, b1 = { s.blocks[s.at_] with jump := kind } ∧ b1.irows = s.blocks[s.at_].irows ∧ b1.ic = s.blocks[s.at_].ic := ⟨_, rfl, rfl, rfl⟩
 rw [← hb1] at hv h1
 have hy1 : H1 y = .vec 5 ((s.blocks.set s.at_ b1).map Blk.row) := by rw [h1]; exact Heap.set_same _ _ _
 have hg2 : List.getD ((s.blocks.set s.at_ b1).map Blk.row) s.at_ [] = b1.row := by simp [List.getD_eq_getElem?_getD, hat]
 refine s_reg ?_
 simp only [go_sem, hy1, hg2, hat, Blk.row, Nat.zero_add, List.length_map, List.length_set]
 intro H2 h2
 have h2 : H2 = H1.set y (.vec 5 (((s.blocks.set s.at_ b1).set s.at_ { b1 with on := on }).map Blk.row)) := by rw [h2]; simp only [List.map_set]; rfl
 have hv := hv.setBlk (i := s.at_) (b' := { b1 with on := on }) (by simpa using hat) (by simpa using hbc) (by rfl) h2 (by simp) (by simp) (by simp)
 simp only [List.set_set] at hv h2
 obtain ⟨b2, hb2, hb2i⟩ : ∃ b2 : Blk, b2 = { b1 with on := on } ∧ b2.irows = b1.irows := ⟨_, rfl, rfl⟩
 rw [← hb2] at hv h2
 have hy2 : H2 y = .vec 5 ((s.blocks.set s.at_ b2).map Blk.row) := by rw [h2]; exact Heap.set_same _ _ _
 have hg3 : List.getD ((s.blocks.set s.at_ b2).map Blk.row) s.at_ [] = b2.row := by simp [List.getD_eq_getElem?_getD, hat]
 refine s_reg ?_
 simp only [go_sem, hy2, hg3, hat, Blk.row, Nat.zero_add, List.length_map, List.length_set]
 intro H3 h3
 have h3 : H3 = H2.set y (.vec 5 (((s.blocks.set s.at_ b2).set s.at_ { b2 with next := next, nfl := fl }).map Blk.row)) := by rw [h3]; simp only [List.map_set]; rfl
 have hv := hv.setBlk (i := s.at_) (b' := { b2 with next := next, nfl := fl }) (by simpa using hat) (by simpa using hbc) (by rfl) h3 (by simp) (by simp) (by simp)
 simp only [List.set_set] at hv
 have hw3 := hv.hw
 refine c_reg ?_
 simp only [go_sem, hw3, LS.o]
 intro H4 h4
 have h' := hv.setw (s' := { s with lb := [(y, .vec 5 ((s.blocks.set s.at_ { b2 with next := next, nfl := fl }).map Blk.row))], blocks := s.blocks.set s.at_ { b2 with next := next, nfl := fl }, at_ := at' }) h4 rfl rfl rfl rfl hv.gv hv.rv
 simp only [endQ, retT, r_l9Low_jump]
 refine ⟨by simp, hK _ H4 h' ⟨by simp, fun M hM => ⟨hM.r0, hM.r1, hM.n0, hM.n1, ?_, ?_, hM.v1⟩, Nat.le_refl _, fun ha => by simpa using hat', rfl, rfl⟩⟩
 ·have := hM.b1; simpa using this
 ·intro b hb
  rcases mem_set_blk hb with rfl | hb
  ·show b2.irows.length ≤ _
   rw [hb2i, hb1l]; exact hM.i1 _ hm
  ·exact hM.i1 b hb
end Go.AE.Y

namespace Go.AE.Y
open Go.Proofs.Tryz
variable {F H : Heap} {w : Nat} {s : LS} {K : V → Heap → Prop}
theorem FnAt_c {l : List Fn} {fl : Bool} {name : List UInt8} (hK : ∀ n : Int, K (.c (.int .i64 n)) H) : ACall prog fn_sp_FnAt [.ag [.sl fl 3 (fnsOf l)], .c (.str name)] H K := by
 refine call_sound hmix m_sp_FnAt ?_
 have retf : ∀ (n : Int) (e : Env), lk 4 e = .c (.int .i64 n) → endQ r_sp_FnAt K .ret e H := by
  intro b e h1
  simp only [go_sem, endQ, retT, r_sp_FnAt, List.mem_singleton, forall_eq, RS.op, h1]
  exact hK _
 refine s_reg ?_
 simp only [go_sem]
 refine c_as ?_
 refine s_reg ?_
 simp only [go_sem]
 refine c_seq (c_block (c_loop (fun n e1 H1 => ∃ (i : Nat), n = l.length - i ∧ i ≤ l.length ∧ H1 = H ∧ e1 = [(1, .c (.str name)), (2, .c (.pp [.sl fl 3 (fnsOf l)])), (5, .c (.int .i64 i))]) l.length ?_ ?_))
 ·exact ⟨0, by omega, by omega, rfl, rfl⟩
 ·rintro n e1 H1 ⟨i, hn1, hi, rfl, rfl⟩
  refine c_as ?_
  refine s_reg ?_
  simp only [go_sem, fnsOf_len]
  intro hl
  simp only [LIM] at hl
  refine c_seq (c_cond rfl ?_ ?_)
  ·intro hc
   have hlt : i < l.length := by simpa using hc
   refine c_skip ?_
   simp only [go_sem]
   refine c_seq (c_block ?_)
   refine s_reg ?_
   simp only [go_sem, hlt, fnsOf_len, fnsOf_getD _ _ hlt, Fn.cells]
   refine c_cond rfl ?_ ?_
   ·intro hc2
    refine s_reg ?_
    simp only [go_sem]
    refine c_ret ?_
    simp only [go_sem, X.next]
    exact retf _ _ (by simp [lk]; rfl)
   ·intro hc2
    refine c_skip ?_
    simp only [go_sem]
    refine c_reg ?_
    simp only [go_sem, X.next]
    exact ⟨inR64 (by omega) (by omega), l.length - (i + 1), by omega, i + 1, rfl, by omega, rfl⟩
  ·intro hc
   refine c_exit ?_
   simp only [go_sem, X.next]
   refine s_reg ?_
   simp only [go_sem]
   refine c_ret ?_
   exact retf _ _ (by simp [lk]; rfl)
theorem reg_c {name : List UInt8} (h : LInv F H w s) (hK : ∀ n : Int, K (.c (.int .i64 n)) H) : ACall prog fn_l9Low_reg [.c (.ptr w 0), .c (.str name)] H K := by
 have hw := h.hw
 obtain ⟨hv1, hv2⟩ := h.vget
 have hvl := h.gv.lenC
 have hve := h.gv.elemSz
 have hvo := h.gv.isOw
 refine call_sound hmix m_l9Low_reg ?_
 have retf : ∀ (n : Int) (e : Env), lk 4 e = .c (.int .i64 n) → endQ r_l9Low_reg K .ret e H := by
  intro b e h1
  simp only [go_sem, endQ, retT, r_l9Low_reg, List.mem_singleton, forall_eq, RS.op, h1]
  exact hK _
 refine s_reg ?_
 simp only [go_sem]
 refine c_as ?_
 refine s_reg ?_
 simp only [go_sem, hw, LS.o, hv1, hvl, hvo]
 intro hl
 simp only [LIM] at hl
 refine ⟨inR64 (by omega) (by omega), ?_⟩
 refine c_seq (c_block (c_loop (fun n e1 H1 => ∃ (j : Nat), n = j ∧ j ≤ s.vars.length ∧ H1 = H ∧ e1 = [(0, .c (.ptr w 0)), (1, .c (.str name)), (5, .c (.int .i64 ((j : Int) - 1)))]) s.vars.length ?_ ?_))
 ·exact ⟨s.vars.length, rfl, by omega, rfl, rfl⟩
 ·rintro n e1 H1 ⟨j, hnj, hj, rfl, rfl⟩
  refine c_as ?_
  refine s_reg ?_
  simp only [go_sem]
  refine c_seq (c_cond rfl ?_ ?_)
  ·intro hc
   have hj1 : 1 ≤ j := by simp at hc; omega
   obtain ⟨i, rfl⟩ : ∃ i, j = i + 1 := ⟨j - 1, by omega⟩
   have e1 : (((i + 1 : Nat) : Int) - 1) = (i : Int) := by omega
   have hlt : i < s.vars.length := by omega
   obtain ⟨nm, a, b, hr⟩ := h.rv _ (List.getElem_mem hlt)
   have hr' : List.getD s.vars i [] = [.str nm, .int .i64 a, .int .i64 b] := by rw [← hr]; simp [List.getD_eq_getElem?_getD, hlt]
   rw [e1] at hc ⊢
   refine c_skip ?_
   simp only [go_sem]
   refine c_seq (c_block ?_)
   refine s_reg ?_
   simp only [go_sem, hw, LS.o, hv1, hv2, hvl, hvo, hve, hlt, hr']
   refine c_cond rfl ?_ ?_
   ·intro hc2
    refine s_reg ?_
    simp only [go_sem, hw, LS.o, hv1, hv2, hvl, hvo, hve, hlt, hr']
    refine c_ret ?_
    simp only [go_sem, X.next]
    exact retf _ _ (by simp [lk]; rfl)
   ·intro hc2
    refine c_skip ?_
    simp only [go_sem]
    refine c_reg ?_
    simp only [go_sem, X.next]
    exact ⟨inR64 (by omega) (by omega), i, by omega, i, rfl, by omega, rfl⟩
  ·intro hc
   refine c_exit ?_
   simp only [go_sem, X.next]
   refine s_reg ?_
   simp only [go_sem]
   refine c_ret ?_
   exact retf _ _ (by simp [lk]; rfl)
def ExprL (n : Nat) : Prop := ∀ (x : Ex) (F H : Heap) (w : Nat) (s : LS) (N : Nat) (K : V → Heap → Prop), x.size ≤ n → x.ok → LInv F H w s → s.at_ < s.blocks.length → s.ok N → N + 10 * x.size ≤ 2^38 →
  (∀ (v : Int) (s' : LS) (H' : Heap), LInv F H' w s' → LStep s s' (10 * x.size) → K (.c (.int .i64 v)) H') → ACall prog fn_l9Low_expr [.c (.ptr w 0), .ag x.cells] H K
def AndL (n : Nat) : Prop := ∀ (x : Ex) (F H : Heap) (w : Nat) (s : LS) (N : Nat) (K : V → Heap → Prop), x.size ≤ n → x.ok → x.op = 10 → LInv F H w s → s.at_ < s.blocks.length → s.ok N → N + 10 * x.size ≤ 2^38 →
  (∀ (v : Int) (s' : LS) (H' : Heap), LInv F H' w s' → LStep s s' (10 * x.size) → K (.c (.int .i64 v)) H') → ACall prog fn_l9Low_and [.c (.ptr w 0), .ag x.cells] H K
theorem and_of {n : Nat} (hE : ∀ m, m < n → ExprL m) : AndL n := by
 intro x F H w s N K hn hok hop h hat hsok hN hK
 have hsz := x.size_kids
 have hk2 := Ex.ok_and hok hop
 have hkok := Ex.ok_kids hok
 obtain ⟨a, b, hab⟩ : ∃ a b, x.kids = [a, b] := by
  match hx : x.kids, hk2 with
  | [a, b], _ => exact ⟨a, b, rfl⟩
 rw [hab] at hsz hkok
 simp only [exsSize, exsOk] at hsz hkok
 refine call_sound hmix m_l9Low_and ?_
 refine s_reg ?_
 simp only [go_sem, x.cells_eq]
 refine s_reg ?_
 simp only [go_sem, hab, exsOf, Ex.take4, Ex.allOw, Ex.cells_len, List.getD_cons_zero]
 refine ⟨by omega, ?_⟩
 refine hE a.size (by omega) a F H w s N _ (Nat.le_refl _) hkok.1 h hat hsok (by omega) fun va s1 H1 h1 st1 => ?_
 simp only [go_sem, s_l9Low_and_i0]
 refine s_reg ?_
 simp only [go_sem]
 refine fresh_c h1 (st1.ok _ hsok) (by omega) fun s2 H2 h2 st2 => ?_
 have st2 := st1.trans st2
 simp only [go_sem, s_l9Low_and_i2]
 refine put_c (args := []) h2 (st2.at_ hat) (st2.ok _ hsok) (by omega) fun s3 H3 h3 st3 => ?_
 have st3 := st2.trans st3
 simp only [go_sem, s_l9Low_and_i1]
 refine s_reg ?_
 simp only [go_sem]
 refine block9_c h3 (st3.ok _ hsok) (by omega) fun s4 H4 h4 st4 hb4 => ?_
 have st4' := st4
 have st4 := st3.trans st4
 simp only [go_sem, s_l9Low_and_i3]
 refine s_reg ?_
 simp only [go_sem]
 refine block9_c h4 (st4.ok _ hsok) (by omega) fun s5 H5 h5 st5 hb5 => ?_
 have st5 := st4.trans st5
 simp only [go_sem, s_l9Low_and_i4]
 refine s_reg ?_
 simp only [go_sem]
 refine jump_c (next := [(s3.blocks.length : Int), (s4.blocks.length : Int)]) (N := 0) h5 (st5.at_ hat) (by omega) fun s6 H6 h6 st6 => ?_
 have hb6 := st6.bl
 have st6 := st5.trans st6
 refine s_reg ?_
 simp only [go_sem, hab, exsOf, Ex.take4, Ex.allOw, Ex.cells_len, List.getD_cons_zero, List.getD_cons_succ]
 refine ⟨by omega, ?_⟩
 refine hE b.size (by omega) b F H6 w s6 _ _ (Nat.le_refl _) hkok.2.1 h6 (st6.at_ hat) (st6.ok _ hsok) (by omega) fun vb s7 H7 h7 st7 => ?_
 have hb7 := st7.bl
 have st7 := st6.trans st7
 simp only [go_sem, s_l9Low_and_i5]
 refine s_reg ?_
 simp only [go_sem]
 refine fresh_c h7 (st7.ok _ hsok) (by omega) fun s8 H8 h8 st8 => ?_
 have hb8 := st8.bl
 have st8 := st7.trans st8
 simp only [go_sem, s_l9Low_and_i7]
 refine put_c (args := [vb]) h8 (st8.at_ hat) (st8.ok _ hsok) (by omega) fun s9 H9 h9 st9 => ?_
 have hb9 := st9.bl
 have st9 := st8.trans st9
 simp only [go_sem, s_l9Low_and_i6]
 refine s_reg ?_
 simp only [go_sem]
 refine put_c (args := [s7.regs]) h9 (st9.at_ hat) (st9.ok _ hsok) (by omega) fun s10 H10 h10 st10 => ?_
 have hb10 := st10.bl
 have st10 := st9.trans st10
 refine s_reg ?_
 simp only [go_sem]
 refine jump_c (next := [(s4.blocks.length : Int)]) (N := 0) h10 (st10.at_ hat) (by omega) fun s11 H11 h11 st11 => ?_
 have st11 := st10.trans st11
 refine s_reg ?_
 simp only [go_sem]
 refine c_ret ?_
 simp only [go_sem, endQ, retT, r_l9Low_and, reduceIte, List.mem_singleton, forall_eq, RS.op]
 exact hK _ s11 H11 h11 (st11.mono (by omega))
end Go.AE.Y

namespace Go.AE.Y
open Go.Proofs.Tryz
variable {F H : Heap} {w : Nat} {s : LS} {K : V → Heap → Prop}
set_option maxHeartbeats 2000000 in
theorem expr_of {n : Nat} (hA : AndL n) (hE : ∀ m, m < n → ExprL m) : ExprL n := by
 intro x F H w s N K hn hok h hat hsok hN hK
 have hsz := x.size_kids
 have hkok := Ex.ok_kids hok
 refine call_sound hmix m_l9Low_expr ?_
 have retf : ∀ (v : Int) (e : Env) (s' : LS) (H' : Heap), LInv F H' w s' → LStep s s' (10 * x.size) → lk 4 e = .c (.int .i64 v) → endQ r_l9Low_expr K .ret e H' := by
  intro v e s' H' a1 a2 h1
  simp only [go_sem, endQ, retT, r_l9Low_expr, List.mem_singleton, forall_eq, RS.op, h1]
  exact hK _ _ _ a1 a2
 refine s_reg ?_
 simp only [go_sem, x.cells_eq]
 refine c_as ?_
 refine s_reg ?_
 simp only [go_sem]
 refine c_seq (c_block ?_)
 refine s_reg ?_
 simp only [go_sem]
 refine c_cond rfl ?_ ?_
 ·intro hc
  refine s_dreg ?_
  simp only [go_sem]
  refine fresh_c h hsok (by omega) fun s1 H1 h1 st1 => ?_
  simp only [go_sem, s_l9Low_expr_i1]
  refine put_c (args := []) h1 (st1.at_ hat) (st1.ok _ hsok) (by omega) fun s2 H2 h2 st2 => ?_
  simp only [go_sem, s_l9Low_expr_i0]
  refine c_ret ?_
  simp only [go_sem]
  exact retf _ _ s2 H2 h2 ((st1.trans st2).mono (by omega)) (by simp [lk]; rfl)
 intro hc1
 refine s_reg ?_
 simp only [go_sem]
 refine c_cond rfl ?_ ?_
 ·intro hc
  refine s_reg ?_
  simp only [go_sem]
  refine reg_c h fun v => ?_
  simp only [go_sem, s_l9Low_expr_i2]
  refine c_ret ?_
  simp only [go_sem]
  exact retf _ _ s H h ((LStep.refl s).mono (by omega)) (by simp [lk]; rfl)
 intro hc2
 refine s_reg ?_
 simp only [go_sem]
 refine c_cond rfl ?_ ?_
 ·intro hc
  have hop : x.op = 10 := by simpa using hc
  refine s_reg ?_
  simp only [go_sem]
  rw [← x.cells_eq]
  refine hA x F H w s N _ hn hok hop h hat hsok hN fun v s1 H1 h1 st1 => ?_
  simp only [go_sem, s_l9Low_expr_i3]
  refine c_ret ?_
  simp only [go_sem]
  exact retf _ _ s1 H1 h1 st1 (by simp [lk]; rfl)
 intro hc3
 refine c_skip ?_
 simp only [go_sem]
 refine s_reg ?_
 simp only [go_sem]
 refine c_as ?_
 refine s_reg ?_
 simp only [go_sem]
 refine c_seq (c_block (c_loop (fun n e1 H1 => ∃ (i : Nat) (ars : List Int) (c : C) (Lg : List (Nat × Obj)) (s' : LS), n = x.kids.length - i ∧ i ≤ x.kids.length ∧ ars.length = i ∧ Gr Lg 1 (intsOf ars) c ∧ LInv F H1 w s' ∧ Kn F H1 [] (s'.L w ++ Lg) ∧
  LStep s s' (10 * exsSize (x.kids.take i)) ∧ e1 = [(0, .c (.ptr w 0)), (3, .c (.pp [.int .i64 x.op, .int .i64 x.n, .str x.name, .sl false 4 (exsOf x.kids)])), (5, .c c), (6, .c (.int .i64 i))]) x.kids.length ?_ ?_))
 ·exact ⟨0, [], _, [], s, by omega, by omega, rfl, .nil 1, h, by simpa using h.kn, (LStep.refl s).mono (by omega), rfl⟩
 ·rintro n e1 H1 ⟨i, ars, c, Lg, s1, hn1, hi, hasl, hgr, h1, kn, st1, rfl⟩
  refine c_as ?_
  refine s_reg ?_
  simp only [go_sem, exsOf_len]
  intro hl
  simp only [LIM] at hl
  refine c_seq (c_cond rfl ?_ ?_)
  ·intro hc
   have hlt : i < x.kids.length := by simpa using hc
   have hm := exsSize_mem (List.getElem_mem hlt)
   have htk := exsSize_take hlt
   have htl := exsSize_take_le x.kids (i + 1)
   refine c_skip ?_
   simp only [go_sem]
   refine c_seq (c_block (c_reg ?_))
   simp only [go_sem, hlt, exsOf_len, exsOf_getD _ _ hlt, Ex.take4, Ex.allOw, Ex.cells_len]
   obtain ⟨F', hf, back⟩ := h1.beside kn hgr
   refine hE x.kids[i].size (by omega) _ F' H1 w s1 _ _ (Nat.le_refl _) (exsOk_mem hkok _ (List.getElem_mem hlt)) hf (st1.at_ hat) (st1.ok _ hsok) (by omega) fun v s2 H2 h2 st2 => ?_
   obtain ⟨h2, kn⟩ := back s2 H2 h2
   simp only [go_sem, s_l9Low_expr_i9]
   refine kn.grow (new := intsOf [v]) hgr (.mk' _ _ _ _) (intsOf_noOw _) (by simp only [intsOf_len, hasl, List.length_cons, List.length_nil, LIM]; omega) fun y' H3 kn => ?_
   simp only [go_sem, s_l9Low_expr_i8]
   refine c_reg ?_
   simp only [go_sem, X.next]
   refine ⟨inR64 (by omega) (by omega), x.kids.length - (i + 1), by omega, i + 1, ars ++ [v], _, _, s2, rfl, by omega, by simp [hasl], .mk y' 1 (intsOf (ars ++ [v])) (n := (intsOf ars).length + (intsOf [v]).length) (by simp [intsOf]), h2.re kn.drop, by rw [intsOf_app]; exact kn, (st1.trans st2).mono (by rw [htk]; omega), by simp [intsOf]⟩
  ·intro hc
   have hge : x.kids.length ≤ i := by simpa using hc
   rw [List.take_of_length_le hge] at st1
   refine c_exit ?_
   simp only [go_sem, X.next]
   refine c_as ?_
   refine c_as ?_
   obtain ⟨S, H2, f1, f2, kn2⟩ := hgr.freeze kn (intsOf_noOw _)
   have h2 := h1.re kn2
   refine c_gh (gstep_frzh S (fun t => ?_) f2) (e' := [(0, .c (.ptr w 0)), (3, .c (.pp [.int .i64 x.op, .int .i64 x.n, .str x.name, .sl false 4 (exsOf x.kids)])), (5, .c (.sl false 1 (intsOf ars)))]) ?_
   ·simp only [lk]
    split
    ·exact .c _ _ (.same _ rfl)
    ·split
     ·exact .c _ _ (.same _ rfl)
     ·split
      ·exact .c _ _ f1
      ·exact .unk _
   refine s_reg ?_
   simp only [go_sem]
   refine c_seq (c_block ?_)
   refine s_reg ?_
   simp only [go_sem]
   refine c_cond rfl ?_ ?_
   ·intro hc
    refine s_reg ?_
    simp only [go_sem]
    refine fresh_c h2 (st1.ok _ hsok) (by omega) fun s3 H3 h3 st3 => ?_
    have st3 := st1.trans st3
    simp only [go_sem, s_l9Low_expr_i14]
    refine put_c h3 (st3.at_ hat) (st3.ok _ hsok) (by omega) fun s4 H4 h4 st4 => ?_
    simp only [go_sem, s_l9Low_expr_i13]
    refine c_ret ?_
    simp only [go_sem]
    exact retf _ _ s4 H4 h4 ((st3.trans st4).mono (by omega)) (by simp [lk]; rfl)
   intro hc4
   refine s_reg ?_
   simp only [go_sem]
   refine c_cond rfl ?_ ?_
   ·intro hc
    refine s_reg ?_
    simp only [go_sem]
    refine fresh_c h2 (st1.ok _ hsok) (by omega) fun s3 H3 h3 st3 => ?_
    have st3 := st1.trans st3
    simp only [go_sem, s_l9Low_expr_i16]
    refine put_c h3 (st3.at_ hat) (st3.ok _ hsok) (by omega) fun s4 H4 h4 st4 => ?_
    simp only [go_sem, s_l9Low_expr_i15]
    refine c_ret ?_
    simp only [go_sem]
    exact retf _ _ s4 H4 h4 ((st3.trans st4).mono (by omega)) (by simp [lk]; rfl)
   intro hc5
   refine s_reg ?_
   simp only [go_sem]
   refine c_cond rfl ?_ ?_
   ·intro hc
    have hw2 := h2.hw
    refine s_dreg ?_
    simp only [go_sem, hw2, LS.o]
    refine fresh_c h2 (st1.ok _ hsok) (by omega) fun s3 H3 h3 st3 => ?_
    have hw3 := h3.hw
    have hfn := st3.fn
    have st3 := st1.trans st3
    simp only [go_sem, s_l9Low_expr_i19, hw3, LS.o, hfn.1, hfn.2]
    refine FnAt_c fun q => ?_
    simp only [go_sem, s_l9Low_expr_i18]
    refine put_c h3 (st3.at_ hat) (st3.ok _ hsok) (by omega) fun s4 H4 h4 st4 => ?_
    simp only [go_sem, s_l9Low_expr_i17]
    refine c_ret ?_
    simp only [go_sem]
    exact retf _ _ s4 H4 h4 ((st3.trans st4).mono (by omega)) (by simp [lk]; rfl)
   intro hc6
   refine c_skip ?_
   simp only [go_sem]
   refine s_dreg ?_
   simp only [go_sem]
   refine fresh_c h2 (st1.ok _ hsok) (by omega) fun s3 H3 h3 st3 => ?_
   have st3 := st1.trans st3
   simp only [go_sem, s_l9Low_expr_i25]
   refine put_c h3 (st3.at_ hat) (st3.ok _ hsok) (by omega) fun s4 H4 h4 st4 => ?_
   simp only [go_sem, s_l9Low_expr_i24]
   refine c_ret ?_
   exact retf _ _ s4 H4 h4 ((st3.trans st4).mono (by omega)) (by simp [lk]; rfl)
theorem exprL (n : Nat) : ExprL n := by
 induction n using Nat.strongRecOn with
 | ind n ih => exact expr_of (and_of ih) ih
end Go.AE.Y

namespace Go.AE.Y
open Go.Proofs.Tryz
variable {F H : Heap} {w : Nat} {s : LS} {K : V → Heap → Prop}
theorem l9Lets_c : ∀ (n : Nat) (l : List St) {fl : Bool} {H : Heap} {K : V → Heap → Prop}, stsSize l ≤ n → stsSize l ≤ 2^40 → (∀ v : Nat, v ≤ stsSize l → K (.c (.int .i64 v)) H) → ACall prog fn_l9Lets [.c (.sl fl 5 (stsOf l))] H K := by
 intro n
 induction n using Nat.strongRecOn with
 | ind n ih =>
 intro l fl H K hn hb hK
 have hlen := stsSize_len l
 refine call_sound hmix m_l9Lets ?_
 refine s_reg ?_
 simp only [go_sem]
 refine s_reg ?_
 simp only [go_sem]
 refine c_as ?_
 refine s_reg ?_
 simp only [go_sem]
 refine c_seq (c_block (c_loop (fun n e1 H1 => ∃ (i v : Nat), n = l.length - i ∧ i ≤ l.length ∧ v ≤ stsSize (l.take i) ∧ H1 = H ∧ e1 = [(0, .c (.sl fl 5 (stsOf l))), (3, .c (.int .i64 v)), (4, .c (.int .i64 i))]) l.length ?_ ?_))
 ·exact ⟨0, 0, by omega, by omega, by omega, rfl, rfl⟩
 ·rintro n e1 H1 ⟨i, v, hn1, hi, hv, rfl, rfl⟩
  refine c_as ?_
  refine s_reg ?_
  simp only [go_sem, stsOf_len]
  intro hl
  simp only [LIM] at hl
  refine c_seq (c_cond rfl ?_ ?_)
  ·intro hc
   have hlt : i < l.length := by simpa using hc
   have hm := stsSize_mem (List.getElem_mem hlt)
   have htk := stsSize_take hlt
   have htl := stsSize_take_le l (i + 1)
   have hse := (l[i]'hlt).size_eq
   refine c_skip ?_
   simp only [go_sem]
   refine c_seq (c_block (c_dreg ?_))
   simp only [go_sem, hlt, stsOf_len, stsOf_getD _ _ hlt, St.cells_eq]
   refine l5Truth_c ?_
   obtain ⟨t, ht, ht1⟩ : ∃ t : Nat, (if decide (l[i].op = 1) = true then (1 : Int) else 0) = t ∧ t ≤ 1 := by
    by_cases h : l[i].op = 1
    ·exact ⟨1, by simp [h], Nat.le_refl _⟩
    ·exact ⟨0, by simp [h], by omega⟩
   simp only [go_sem, s_l9Lets_i2, hlt, stsOf_len, stsOf_getD _ _ hlt, St.cells_eq, ht]
   refine ⟨inR64 (by omega) (by omega), ?_⟩
   refine ih (stsSize l[i].body) (by omega) l[i].body (Nat.le_refl _) (by omega) fun a ha => ?_
   simp only [go_sem, s_l9Lets_i1, hlt, stsOf_len, stsOf_getD _ _ hlt, St.cells_eq]
   refine ⟨inR64 (by omega) (by omega), ?_⟩
   refine ih (stsSize l[i].els) (by omega) l[i].els (Nat.le_refl _) (by omega) fun c hc => ?_
   simp only [go_sem, s_l9Lets_i0]
   refine ⟨inR64 (by omega) (by omega), ?_⟩
   refine c_reg ?_
   simp only [go_sem, X.next]
   refine ⟨inR64 (by omega) (by omega), l.length - (i + 1), by omega, i + 1, v + t + a + c, rfl, by omega, by omega, rfl⟩
  ·intro hc
   have hge : l.length ≤ i := by simpa using hc
   refine c_exit ?_
   simp only [go_sem, X.next]
   refine s_reg ?_
   simp only [go_sem]
   refine c_ret ?_
   simp only [go_sem, endQ, retT, r_l9Lets, reduceIte, List.mem_singleton, forall_eq, RS.op]
   rw [List.take_of_length_le hge] at hv
   exact hK v (by omega)
def StmtL (n : Nat) : Prop := ∀ (x : St) (F H : Heap) (w : Nat) (s : LS) (N : Nat) (K : V → Heap → Prop), x.size ≤ n → x.ok → LInv F H w s → s.at_ < s.blocks.length → s.ok N → N + 10 * x.size ≤ 2^38 →
  (∀ (s' : LS) (H' : Heap), LInv F H' w s' → LStep s s' (10 * x.size) → K (.tup []) H') → ACall prog fn_l9Low_stmt [.c (.ptr w 0), .ag x.cells] H K
def LoopL (n : Nat) : Prop := ∀ (x : St) (F H : Heap) (w : Nat) (s : LS) (N : Nat) (K : V → Heap → Prop), x.size ≤ n → x.ok → LInv F H w s → s.at_ < s.blocks.length → s.ok N → N + 10 * x.size ≤ 2^38 →
  (∀ (s' : LS) (H' : Heap), LInv F H' w s' → LStep s s' (10 * x.size) → K (.tup []) H') → ACall prog fn_l9Low_loop [.c (.ptr w 0), .ag x.cells] H K
def StmtsL (n : Nat) : Prop := ∀ (l : List St) (fl : Bool) (F H : Heap) (w : Nat) (s : LS) (N : Nat) (K : V → Heap → Prop), stsSize l ≤ n → stsOk l → LInv F H w s → s.at_ < s.blocks.length → s.ok N → N + 10 * stsSize l ≤ 2^38 →
  (∀ (s' : LS) (H' : Heap), LInv F H' w s' → LStep s s' (10 * stsSize l) → K (.tup []) H') → ACall prog fn_l9Low_stmts [.c (.ptr w 0), .c (.sl fl 5 (stsOf l))] H K
theorem stmtsL_of {n : Nat} (hS : StmtL n) : StmtsL n := by
 intro l fl F H w s N K hn hok h hat hsok hN hK
 have hw := h.hw
 obtain ⟨hv1, hv2⟩ := h.vget
 have hvl := h.gv.lenC
 have hvo := h.gv.isOw
 refine call_sound hmix m_l9Low_stmts ?_
 refine s_reg ?_
 simp only [go_sem, hw, LS.o, hv1, hvl, hvo]
 intro hvlim
 refine c_as ?_
 refine s_reg ?_
 simp only [go_sem]
 refine c_seq (c_block (c_loop (fun n e1 H1 => ∃ (i : Nat) (s' : LS), n = l.length - i ∧ i ≤ l.length ∧ LInv F H1 w s' ∧ LStep s s' (10 * stsSize (l.take i)) ∧ e1 = [(0, .c (.ptr w 0)), (1, .c (.sl fl 5 (stsOf l))), (4, .c (.int .i64 s.vars.length)), (5, .c (.int .i64 i))]) l.length ?_ ?_))
 ·exact ⟨0, s, by omega, by omega, h, (LStep.refl s).mono (by omega), rfl⟩
 ·rintro n e1 H1 ⟨i, s1, hn1, hi, h1, st1, rfl⟩
  refine c_as ?_
  refine s_reg ?_
  simp only [go_sem, stsOf_len]
  intro hl
  simp only [LIM] at hl
  refine c_seq (c_cond rfl ?_ ?_)
  ·intro hc
   have hlt : i < l.length := by simpa using hc
   have hm := stsSize_mem (List.getElem_mem hlt)
   have htk := stsSize_take hlt
   have htl := stsSize_take_le l (i + 1)
   refine c_skip ?_
   simp only [go_sem]
   refine c_seq (c_block (c_reg ?_))
   simp only [go_sem, hlt, stsOf_len, stsOf_getD _ _ hlt, St.take5, St.allOw, St.cells_len]
   refine hS l[i] F H1 w s1 _ _ (by omega) (stsOk_mem hok _ (List.getElem_mem hlt)) h1 (st1.at_ hat) (st1.ok _ hsok) (by omega) fun s2 H2 h2 st2 => ?_
   refine c_reg ?_
   simp only [go_sem, X.next]
   exact ⟨inR64 (by omega) (by omega), l.length - (i + 1), by omega, i + 1, s2, rfl, by omega, h2, (st1.trans st2).mono (by rw [htk]; omega), rfl⟩
  ·intro hc
   have hge : l.length ≤ i := by simpa using hc
   rw [List.take_of_length_le hge] at st1
   have hw1 := h1.hw
   obtain ⟨hv1', hv2'⟩ := h1.vget
   have hvl' := h1.gv.lenC
   have hvo' := h1.gv.isOw
   have hve' := h1.gv.elemSz
   have hvle := st1.vl
   have hrv : ∀ r ∈ s1.vars.take s.vars.length, VarRow r := fun r hr => h1.rv r (List.mem_of_mem_take hr)
   have fin : ∀ (H2 : Heap) (c : C), H2 = H1.set w (LS.o { s1 with vc := c }) → VGr s1.lv (s1.vars.take s.vars.length) c → endQ r_l9Low_stmts K .nrm [] H2 := by
    intro H2 c h2 hg
    simp only [endQ, retT, r_l9Low_stmts]
    refine ⟨by simp, hK { s1 with vc := c, vars := s1.vars.take s.vars.length } H2 (h1.setw h2 rfl rfl rfl rfl hg hrv) ⟨st1.bl, fun M hM => ?_, by simp; omega, st1.at_, st1.fn⟩⟩
    have := st1.ok M hM
    exact ⟨this.r0, this.r1, this.n0, this.n1, this.b1, this.i1, by have := this.v1; simp; omega⟩
   refine c_exit ?_
   simp only [go_sem, X.next]
   refine c_reg ?_
   rcases h1.gv with ⟨g1, g2, g3⟩ | ⟨y, all, k, g1, g2, g3, g4⟩
   ·have hz : s.vars.length = 0 := by rw [g2] at hvle; simpa using hvle
    simp only [go_sem, hw1, LS.o, g1, hz, List.take_nil, List.drop_nil]
    refine ⟨⟨by omega, by omega⟩, fun H2 h2 => ?_⟩
    refine fin H2 (.sl true 3 []) h2 (.inl ⟨rfl, by rw [g2]; simp, g3⟩)
   ·rw [g1] at hv1' hvl'
    have hk : k = s1.vars.length := by simpa [lenC] using hvl'
    simp only [go_sem] at hv1'
    simp only [go_sem, hw1, LS.o, g1, hv1']
    refine ⟨⟨by omega, by omega⟩, fun H2 h2 => ?_⟩
    refine fin H2 (.vsl y 3 0 (s.vars.length - 0)) h2 (.inr ⟨y, all, s.vars.length - 0, rfl, by omega, ?_, g4⟩)
    rw [g3, List.take_take]; congr 1; omega
end Go.AE.Y

namespace Go.AE.Y
open Go.Proofs.Tryz
variable {F H : Heap} {w : Nat} {s : LS} {K : V → Heap → Prop}
set_option maxHeartbeats 1000000 in
theorem loopL_of {n : Nat} (hS : ∀ m, m < n → StmtsL m) : LoopL n := by
 intro x F H w s N K hn hok h hat hsok hN hK
 have hsz := x.size_eq
 rw [St.ok_eq] at hok
 obtain ⟨hap, hao, hbo, heo⟩ := hok
 have ham := exsSize_mem (List.getElem_mem hap)
 refine call_sound hmix m_l9Low_loop ?_
 refine s_reg ?_
 simp only [go_sem, x.cells_eq]
 refine s_reg ?_
 simp only [go_sem]
 refine block9_c h hsok (by omega) fun s1 H1 h1 st1 hb1 => ?_
 simp only [go_sem, s_l9Low_loop_i0]
 refine s_reg ?_
 simp only [go_sem]
 refine block9_c h1 (st1.ok _ hsok) (by omega) fun s2 H2 h2 st2 hb2 => ?_
 have st2 := st1.trans st2
 simp only [go_sem, s_l9Low_loop_i1]
 refine s_reg ?_
 simp only [go_sem]
 refine block9_c h2 (st2.ok _ hsok) (by omega) fun s3 H3 h3 st3 hb3 => ?_
 have st3 := st2.trans st3
 simp only [go_sem, s_l9Low_loop_i2]
 refine s_reg ?_
 simp only [go_sem]
 refine jump_c (next := [(s.blocks.length : Int)]) (N := 0) h3 (st3.at_ hat) (by omega) fun s4 H4 h4 st4 => ?_
 have hb4 := st4.bl
 have st4 := st3.trans st4
 refine s_reg ?_
 simp only [go_sem, hap, exsOf_len, exsOf_getD _ _ hap, Ex.take4, Ex.allOw, Ex.cells_len]
 refine ⟨by omega, ?_⟩
 refine exprL _ x.args[0] F H4 w s4 _ _ (Nat.le_refl _) (exsOk_mem hao _ (List.getElem_mem hap)) h4 (st4.at_ hat) (st4.ok _ hsok) (by omega) fun v s5 H5 h5 st5 => ?_
 have hb5 := st5.bl
 have st5 := st4.trans st5
 simp only [go_sem, s_l9Low_loop_i3]
 refine s_reg ?_
 simp only [go_sem]
 refine jump_c (next := [(s1.blocks.length : Int), (s2.blocks.length : Int)]) (N := 0) h5 (st5.at_ hat) (by omega) fun s6 H6 h6 st6 => ?_
 have hb6 := st6.bl
 have st6 := st5.trans st6
 refine s_reg ?_
 simp only [go_sem]
 refine hS (stsSize x.body) (by omega) x.body _ F H6 w s6 _ _ (Nat.le_refl _) hbo h6 (st6.at_ hat) (st6.ok _ hsok) (by omega) fun s7 H7 h7 st7 => ?_
 have hb7 := st7.bl
 have st7 := st6.trans st7
 refine c_reg ?_
 simp only [go_sem]
 refine jump_c (next := [(s.blocks.length : Int)]) (N := 0) h7 (st7.at_ hat) (by omega) fun s8 H8 h8 st8 => ?_
 have st8 := st7.trans st8
 simp only [endQ, retT, r_l9Low_loop]
 exact ⟨by simp, hK s8 H8 h8 (st8.mono (by omega))⟩
set_option maxHeartbeats 2000000 in
theorem stmtL_of {n : Nat} (hS : ∀ m, m < n → StmtsL m) : StmtL n := by
 intro x F H w s N K hn hok h hat hsok hN hK
 have hok' := hok
 have hsz := x.size_eq
 rw [St.ok_eq] at hok
 obtain ⟨hap, hao, hbo, heo⟩ := hok
 refine call_sound hmix m_l9Low_stmt ?_
 have retn : ∀ (e : Env) (s' : LS) (H' : Heap) (q : X), (q = .nrm ∨ q = .ret) → LInv F H' w s' → LStep s s' (10 * x.size) → endQ r_l9Low_stmt K q e H' := by
  intro e s' H' q hq a1 a2
  rcases hq with rfl | rfl <;> exact ⟨by simp [r_l9Low_stmt], hK s' H' a1 a2⟩
 refine s_reg ?_
 simp only [go_sem, x.cells_eq]
 refine c_as ?_
 refine s_reg ?_
 simp only [go_sem]
 refine c_seq (c_cond rfl ?_ ?_)
 ·intro hc
  refine s_reg ?_
  simp only [go_sem]
  rw [← x.cells_eq]
  refine loopL_of hS x F H w s N _ hn hok' h hat hsok hN fun s1 H1 h1 st1 => ?_
  refine c_ret ?_
  simp only [go_sem]
  exact retn _ s1 H1 _ (.inr rfl) h1 st1
 intro hc0
 refine c_skip ?_
 simp only [go_sem]
 refine s_reg ?_
 simp only [go_sem]
 refine c_as ?_
 refine s_reg ?_
 simp only [go_sem]
 refine c_seq (c_block (c_loop (fun n e1 H1 => ∃ (i : Nat) (ars : List Int) (c : C) (Lg : List (Nat × Obj)) (s' : LS), n = x.args.length - i ∧ i ≤ x.args.length ∧ ars.length = i ∧ Gr Lg 1 (intsOf ars) c ∧ LInv F H1 w s' ∧ Kn F H1 [] (s'.L w ++ Lg) ∧
  LStep s s' (10 * exsSize (x.args.take i)) ∧ e1 = [(0, .c (.ptr w 0)), (3, .c (.pp [.int .i64 x.op, .str x.name, .sl false 4 (exsOf x.args), .sl false 5 (stsOf x.body), .sl false 5 (stsOf x.els)])), (4, .c c), (5, .c (.int .i64 i))]) x.args.length ?_ ?_))
 ·exact ⟨0, [], _, [], s, by omega, by omega, rfl, .nil 1, h, by simpa using h.kn, (LStep.refl s).mono (by omega), rfl⟩
 ·rintro n e1 H1 ⟨i, ars, c, Lg, s1, hn1, hi, harl, hgr, h1, kn, st1, rfl⟩
  refine c_as ?_
  refine s_reg ?_
  simp only [go_sem, exsOf_len]
  intro hl
  simp only [LIM] at hl
  refine c_seq (c_cond rfl ?_ ?_)
  ·intro hc
   have hlt : i < x.args.length := by simpa using hc
   have hm := exsSize_mem (List.getElem_mem hlt)
   have htk := exsSize_take hlt
   have htl := exsSize_take_le x.args (i + 1)
   refine c_skip ?_
   simp only [go_sem]
   refine c_seq (c_block (c_reg ?_))
   simp only [go_sem, hlt, exsOf_len, exsOf_getD _ _ hlt, Ex.take4, Ex.allOw, Ex.cells_len]
   obtain ⟨F', hf, back⟩ := h1.beside kn hgr
   refine exprL _ _ F' H1 w s1 _ _ (Nat.le_refl _) (exsOk_mem hao _ (List.getElem_mem hlt)) hf (st1.at_ hat) (st1.ok _ hsok) (by omega) fun v s2 H2 h2 st2 => ?_
   obtain ⟨h2, kn⟩ := back s2 H2 h2
   simp only [go_sem, s_l9Low_stmt_i2]
   refine kn.grow (new := intsOf [v]) hgr (.mk' _ _ _ _) (intsOf_noOw _) (by simp only [intsOf_len, harl, List.length_cons, List.length_nil, LIM]; omega) fun y' H3 kn => ?_
   simp only [go_sem, s_l9Low_stmt_i1]
   refine c_reg ?_
   simp only [go_sem, X.next]
   refine ⟨inR64 (by omega) (by omega), x.args.length - (i + 1), by omega, i + 1, ars ++ [v], _, _, s2, rfl, by omega, by simp [harl], .mk y' 1 (intsOf (ars ++ [v])) (n := (intsOf ars).length + (intsOf [v]).length) (by simp [intsOf]), h2.re kn.drop, by rw [intsOf_app]; exact kn, (st1.trans st2).mono (by rw [htk]; omega), by simp [intsOf]⟩
  ·intro hc
   have hge : x.args.length ≤ i := by simpa using hc
   have hil : i = x.args.length := by omega
   rw [List.take_of_length_le hge] at st1
   have har0 : 0 < ars.length := by omega
   refine c_exit ?_
   simp only [go_sem, X.next]
   refine c_as ?_
   obtain ⟨S, H2, f1, f2, kn2⟩ := hgr.freeze kn (intsOf_noOw _)
   have h2 := h1.re kn2
   refine c_gh (gstep_frzh S (fun t => ?_) f2) (e' := [(0, .c (.ptr w 0)), (3, .c (.pp [.int .i64 x.op, .str x.name, .sl false 4 (exsOf x.args), .sl false 5 (stsOf x.body), .sl false 5 (stsOf x.els)])), (4, .c (.sl false 1 (intsOf ars)))]) ?_
   ·simp only [lk]
    split
    ·exact .c _ _ (.same _ rfl)
    ·split
     ·exact .c _ _ (.same _ rfl)
     ·split
      ·exact .c _ _ f1
      ·exact .unk _
   have hsok1 := st1.ok _ hsok
   have hat1 := st1.at_ hat
   have hw2 := h2.hw
   refine s_reg ?_
   simp only [go_sem]
   refine c_block ?_
   refine s_reg ?_
   simp only [go_sem]
   refine c_cond rfl ?_ ?_
   ·
    intro hc
    refine s_reg ?_
    simp only [go_sem, hw2, LS.o]
    refine put_c h2 hat1 hsok1 (by omega) fun s3 H3 h3 st3 => ?_
    have hw3 := h3.hw
    have hvo := h3.gv.isOw
    have hsok3 := st3.ok _ hsok1
    have st3 := st1.trans st3
    refine s_dreg ?_
    simp only [go_sem, hw3, LS.o, hvo]
    refine h3.addVar ⟨x.name, s3.next, 0, rfl⟩ (by have := hsok3.v1; simp only [LIM]; omega) fun y H4 hw4 cont => ?_
    simp only [go_sem, s_l9Low_stmt_i6, hw4, LS.o]
    intro H5 h5
    have h5' := cont H5 h5
    have hw5 := h5'.hw
    refine c_reg ?_
    have hn0 := hsok3.n0
    have hn1 := hsok3.n1
    simp only [go_sem, hw5, LS.o]
    refine ⟨inR64 (by omega) (by omega), fun H6 h6 => ?_⟩
    have h6' := h5'.setw (s' := { s3 with vc := .vsl y 3 0 (s3.vars.length + 1), lv := [(y, .vec 3 (s3.vars ++ [[C.str x.name, C.int IntKind.i64 s3.next, C.int IntKind.i64 0]]))], vars := s3.vars ++ [[C.str x.name, C.int IntKind.i64 s3.next, C.int IntKind.i64 0]], next := s3.next + 1 }) h6 rfl rfl rfl rfl h5'.gv h5'.rv
    refine retn _ _ H6 _ (.inl rfl) h6' ⟨st3.bl, fun M hM => ?_, ?_, st3.at_, st3.fn⟩
    ·have q := st3.ok M hM
     refine ⟨q.r0, ?_, ?_, ?_, ?_, fun b hb => ?_, ?_⟩
     ·have := q.r1; show s3.regs ≤ _; omega
     ·have := q.n0; show 0 ≤ s3.next + 1; omega
     ·have := q.n1; show s3.next + 1 ≤ _; omega
     ·have := q.b1; show s3.blocks.length ≤ _; omega
     ·have := q.i1 b hb; omega
     ·have := q.v1; simp; omega
    ·have := st3.vl; simp; omega
   intro hc1
   refine s_reg ?_
   simp only [go_sem]
   refine c_cond rfl ?_ ?_
   ·
    intro hc
    refine c_reg ?_
    simp only [go_sem]
    refine reg_c h2 fun v => ?_
    simp only [go_sem, s_l9Low_stmt_i9]
    refine put_c h2 hat1 hsok1 (by omega) fun s3 H3 h3 st3 => ?_
    exact retn _ _ H3 _ (.inl rfl) h3 ((st1.trans st3).mono (by omega))
   intro hc2
   refine s_reg ?_
   simp only [go_sem]
   refine c_cond rfl ?_ ?_
   ·intro hc
    refine c_reg ?_
    simp only [go_sem]
    refine put_c h2 hat1 hsok1 (by omega) fun s3 H3 h3 st3 => ?_
    exact retn _ _ H3 _ (.inl rfl) h3 ((st1.trans st3).mono (by omega))
   intro hc3
   refine s_reg ?_
   simp only [go_sem]
   refine c_cond rfl ?_ ?_
   ·intro hc
    refine c_reg ?_
    simp only [go_sem]
    refine put_c h2 hat1 hsok1 (by omega) fun s3 H3 h3 st3 => ?_
    exact retn _ _ H3 _ (.inl rfl) h3 ((st1.trans st3).mono (by omega))
   intro hc4
   refine s_reg ?_
   simp only [go_sem]
   refine c_cond rfl ?_ ?_
   ·
    intro hc
    refine c_dreg ?_
    simp only [go_sem, har0, intsOf_len, intsOf_getD _ _ har0]
    refine ⟨by omega, ?_⟩
    refine block9_c h2 hsok1 (by omega) fun s3 H3 h3 st3 hb3 => ?_
    have st3 := st1.trans st3
    simp only [go_sem, s_l9Low_stmt_i10, har0, intsOf_len, intsOf_getD _ _ har0]
    refine ⟨by omega, ?_⟩
    refine jump_c (next := []) (N := 0) h3 (st3.at_ hat) (by omega) fun s4 H4 h4 st4 => ?_
    exact retn _ _ H4 _ (.inl rfl) h4 ((st3.trans st4).mono (by omega))
   intro hc5
   refine s_reg ?_
   simp only [go_sem]
   refine c_cond rfl ?_ ?_
   ·
    intro hc
    refine s_reg ?_
    simp only [go_sem]
    refine block9_c h2 hsok1 (by omega) fun s3 H3 h3 st3 hb3 => ?_
    have st3 := st1.trans st3
    simp only [go_sem, s_l9Low_stmt_i11]
    refine s_reg ?_
    simp only [go_sem]
    refine block9_c h3 (st3.ok _ hsok) (by omega) fun s4 H4 h4 st4 hb4 => ?_
    have st4 := st3.trans st4
    simp only [go_sem, s_l9Low_stmt_i12]
    refine s_reg ?_
    simp only [go_sem]
    refine block9_c h4 (st4.ok _ hsok) (by omega) fun s5 H5 h5 st5 hb5 => ?_
    have st5 := st4.trans st5
    simp only [go_sem, s_l9Low_stmt_i13]
    refine s_reg ?_
    simp only [go_sem, har0, intsOf_len, intsOf_getD _ _ har0]
    refine ⟨by omega, ?_⟩
    refine jump_c (next := [(s1.blocks.length : Int), (s3.blocks.length : Int)]) (N := 0) h5 (st5.at_ hat) (by omega) fun s6 H6 h6 st6 => ?_
    have hb6 := st6.bl
    have st6 := st5.trans st6
    refine s_reg ?_
    simp only [go_sem]
    refine hS (stsSize x.body) (by omega) x.body _ F H6 w s6 _ _ (Nat.le_refl _) hbo h6 (st6.at_ hat) (st6.ok _ hsok) (by omega) fun s7 H7 h7 st7 => ?_
    have hb7 := st7.bl
    have st7 := st6.trans st7
    refine s_reg ?_
    simp only [go_sem]
    refine jump_c (next := [(s4.blocks.length : Int)]) (N := 0) h7 (st7.at_ hat) (by omega) fun s8 H8 h8 st8 => ?_
    have hb8 := st8.bl
    have st8 := st7.trans st8
    refine s_reg ?_
    simp only [go_sem]
    refine hS (stsSize x.els) (by omega) x.els _ F H8 w s8 _ _ (Nat.le_refl _) heo h8 (st8.at_ hat) (st8.ok _ hsok) (by omega) fun s9 H9 h9 st9 => ?_
    have hb9 := st9.bl
    have st9 := st8.trans st9
    refine c_reg ?_
    simp only [go_sem]
    refine jump_c (next := [(s4.blocks.length : Int)]) (N := 0) h9 (st9.at_ hat) (by omega) fun s10 H10 h10 st10 => ?_
    exact retn _ _ H10 _ (.inl rfl) h10 ((st9.trans st10).mono (by omega))
   ·intro hc6
    refine c_skip ?_
    simp only [go_sem]
    exact retn _ _ H2 _ (.inl rfl) h2 (st1.mono (by omega))
theorem stmtsL (n : Nat) : StmtsL n := by
 induction n using Nat.strongRecOn with
 | ind n ih => exact stmtsL_of (stmtL_of ih)
end Go.AE.Y

namespace Go.AE.Y
open Go.Proofs.Tryz
variable {H : Heap} {K : V → Heap → Prop}
set_option maxHeartbeats 2000000 in
theorem l9Fn_c {fns : List Fn} {fl : Bool} {k : Nat} (hk : k < fns.length) (hpl : fns[k].params.length ≤ 3) (hbo : stsOk fns[k].body) (hbs : stsSize fns[k].body ≤ 2^34)
  (hK : ∀ (c : CodeD) (H' : Heap), Upd H H' [] → c.fits → K (.ag c.cells) H') : ACall prog fn_l9Fn [.ag [.sl fl 3 (fnsOf fns)], .c (.int .i64 k)] H K := by
 refine acall_un ?_
 refine call_sound hmix m_l9Fn ?_
 refine s_reg ?_
 simp only [go_sem]
 intro x4 hx4 H1 h1
 have kn := (Kn.start0 H).al hx4 h1
 refine s_reg ?_
 simp only [go_sem, hk, fnsOf_len, fnsOf_getD _ _ hk, Fn.take3, Fn.allOw, Fn.cells_len]
 generalize fns[k] = f at *
 intro x5 hx5 H2 h2
 have kn := kn.al hx5 h2
 have hx52 := kn.l 1 rfl
 simp only [go_sem, s_l9Fn_i0, hx52, Fn.cells]
 intro H3 h3
 have kn : Kn H H3 [] [(x4, .st [.int .i64 0, .int .i64 0, .sl true 5 []]), (x5, .st [.str f.name, .sl false 1 (strsOf f.params), .sl false 5 (stsOf f.body)])] := kn.stL 1 rfl h3
 have hx43 := kn.l 0 rfl
 have hx53 := kn.l 1 rfl
 have h45 := kn.neL 0 1 rfl rfl (by decide)
 refine s_reg ?_
 simp only [go_sem, hx53, strsOf_len]
 intro hpl2 w hw H4 h4
 have h : LInv H3 H4 w ⟨fns, fl, 0, 0, .sl true 5 [], [], [], 0, .sl true 3 [], [], [], f.params.length⟩ :=
  ⟨(Kn.start0 H3).al hw h4, .nil 5, .inl ⟨rfl, rfl, rfl⟩, by simp, by simp, by simp⟩
 have hfr : ∀ (s : LS) (H' : Heap), LInv H3 H' w s → H' x4 = .st [.int .i64 0, .int .i64 0, .sl true 5 []] ∧ H' x5 = .st [.str f.name, .sl false 1 (strsOf f.params), .sl false 5 (stsOf f.body)] := fun s H' h' =>
  ⟨by rw [h'.kn.chg x4 (by rw [hx43]; simp) (by simp), hx43], by rw [h'.kn.chg x5 (by rw [hx53]; simp) (by simp), hx53]⟩
 have hx54 := (hfr _ _ h).2
 have hw4 := h.hw
 simp only [go_sem, s_l9Fn_i1]
 refine s_reg ?_
 simp only [go_sem, hx54, hw4, LS.o, strsOf_len]
 intro _ H5 h5
 have h := h.setw (s' := ⟨fns, fl, f.params.length, 0, .sl true 5 [], [], [], 0, .sl true 3 [], [], [], f.params.length⟩) h5 rfl rfl rfl rfl h.gv h.rv
 have hx55 := (hfr _ _ h).2
 refine s_dreg ?_
 simp only [go_sem, hx55, strsOf_len]
 refine l9Lets_c _ f.body (Nat.le_refl _) (by omega) fun v hv => ?_
 have hw5 := h.hw
 simp only [go_sem, s_l9Fn_i2, hx55, hw5, LS.o, strsOf_len]
 refine ⟨inR64 (by omega) (by omega), fun H6 h6 => ?_⟩
 have h := h.setw (s' := ⟨fns, fl, f.params.length, (f.params.length : Int) + v, .sl true 5 [], [], [], 0, .sl true 3 [], [], [], f.params.length⟩) h6 rfl rfl rfl rfl h.gv h.rv
 refine c_as ?_
 refine s_reg ?_
 simp only [go_sem]
 refine c_seq (c_block (c_loop (fun n e1 H1 => ∃ (i : Nat) (s' : LS), n = f.params.length - i ∧ i ≤ f.params.length ∧ LInv H3 H1 w s' ∧ s'.blocks = [] ∧ s'.at_ = 0 ∧ s'.regs = (f.params.length : Int) + v ∧ s'.next = f.params.length ∧ s'.vars.length = i ∧
  e1 = [(4, .c (.ptr x4 0)), (5, .c (.ptr x5 0)), (6, .c (.ptr w 0)), (7, .c (.int .i64 i))]) f.params.length ?_ ?_))
 ·exact ⟨0, _, by omega, by omega, h, rfl, rfl, rfl, rfl, rfl, rfl⟩
 ·rintro n e1 H1 ⟨i, s, hn1, hi, h, hb0, ha0, hr0, hn0, hvl, rfl⟩
  have hx51 := (hfr _ _ h).2
  have hw1 := h.hw
  have hvo := h.gv.isOw
  refine c_as ?_
  refine s_reg ?_
  simp only [go_sem, hx51, strsOf_len]
  intro _
  refine c_seq (c_cond rfl ?_ ?_)
  ·intro hc
   have hlt : i < f.params.length := by simpa using hc
   refine c_skip ?_
   simp only [go_sem]
   refine c_seq (c_block (c_dreg ?_))
   simp only [go_sem, hx51, hw1, LS.o, hvo, hlt, strsOf_len, strsOf_getD _ _ hlt]
   refine h.addVar ⟨_, _, _, rfl⟩ (by simp only [LIM]; omega) fun y H4 hw4 cont => ?_
   simp only [go_sem, s_l9Fn_i3, hw4, LS.o]
   intro H5 h5
   have h' := cont H5 h5
   refine c_reg ?_
   simp only [go_sem, X.next]
   exact ⟨inR64 (by omega) (by omega), f.params.length - (i + 1), by omega, i + 1, _, rfl, by omega, h', hb0, ha0, hr0, hn0, by simp [hvl], rfl⟩
  ·intro hc
   refine c_exit ?_
   simp only [go_sem, X.next]
   have hsok : s.ok (3 + v) := ⟨by rw [hr0]; omega, by rw [hr0]; omega, by rw [hn0]; omega, by rw [hn0]; omega, by simp [hb0], by simp [hb0], by omega⟩
   refine s_reg ?_
   simp only [go_sem]
   refine block9_c' h hsok (by omega) fun s1 H4 h1 st1 hb1 hat1 => ?_
   have hat : s1.at_ < s1.blocks.length := by rw [hat1, ha0]; omega
   have hsok1 := st1.ok _ hsok
   refine s_reg ?_
   have hx54 := (hfr _ _ h1).2
   simp only [go_sem, hx54]
   refine stmtsL _ f.body _ H3 H4 w s1 _ _ (Nat.le_refl _) hbo h1 hat hsok1 (by omega) fun s2 H5 h2 st2 => ?_
   refine s_reg ?_
   simp only [go_sem]
   refine fresh_c h2 (st2.ok _ hsok1) (by omega) fun s3 H6 h3 st3 => ?_
   have st3 := st2.trans st3
   simp only [go_sem, s_l9Fn_i8]
   refine put_c (args := []) h3 (st3.at_ hat) (st3.ok _ hsok1) (by omega) fun s4 H7 h4 st4 => ?_
   have st4 := st3.trans st4
   simp only [go_sem, s_l9Fn_i7]
   have hbl4 := st4.bl
   refine s_reg ?_
   simp only [go_sem]
   refine jump_c (at' := 0) (next := []) (N := 0) h4 (st4.at_ hat) (by omega) fun s5 H8 h5 st5 => ?_
   have hw8 := h5.hw
   obtain ⟨hx48, hx58⟩ := hfr _ _ h5
   have hbow := h5.gb.isOw
   refine s_reg ?_
   simp only [go_sem, hw8, hx48, LS.o, hbow]
   intro H9 h9
   have hx49 : H9 x4 = .st [.int .i64 s5.params, .int .i64 s5.regs, s5.bc] := by rw [h9]; exact Heap.set_same _ _ _
   have ho9 : ∀ m, m ≠ x4 → H9 m = H8 m := fun m hm => by rw [h9]; exact Heap.set_other _ _ hm
   have huse : ∀ m, H m ≠ .none → H9 m = H m := fun m hm => by
    have e1 := kn.chg m hm (by simp)
    have e2 := h5.kn.chg m (by rw [e1]; exact hm) (by simp)
    rw [ho9 m (fun hh => by subst hh; exact hm (kn.free 0 rfl)), e2, e1]
   have hun : ∀ p ∈ s5.L w, H9 p.1 = p.2 ∧ un H p.1 = true := fun p hp => by
    have e1 := (h5.kn.get p (by simpa using hp)).1
    have e2 := h5.kn.loc p hp
    have hne : p.1 ≠ x4 := fun hh => by rw [hh, hx43] at e2; simp at e2
    refine ⟨by rw [ho9 _ hne, e1], un_free ?_⟩
    cases hh : H p.1 with
    | none => rfl
    | _ => have := kn.chg p.1 (by rw [hh]; simp) (by simp); rw [e2, hh] at this; simp at this
   refine c_ret ?_
   simp only [go_sem, endQ, retT, r_l9Fn, reduceIte, List.mem_singleton, forall_eq, RS.op, hx49, hbow]
   have hok5 := (st4.trans st5).ok _ hsok1
   obtain ⟨bs, hbs1, hbs2, hbs3⟩ := blks_frz (H := H9) (S := un H) s5.blocks fun b hb => ⟨h5.gi b hb, h5.ri b hb, fun p hp => hun p (by
    simp only [LS.L, List.mem_append, List.mem_flatMap]
    exact .inr (.inr (.inr ⟨b, hb, hp⟩))), by have := hok5.i1 b hb; omega⟩
   refine ⟨.ag (CodeD.mk s5.params s5.regs bs).cells, FrzL.ag (.cons (frzc_same rfl) (.cons (frzc_same rfl) (.cons (Gr.frzM h5.gb (fun p hp => hun p (by
    simp only [LS.L, List.mem_append]
    exact .inr (.inl hp))) hbs1) .nil))), hK _ _ ⟨by simp, fun m hm _ => ?_⟩ hbs3⟩
   rw [frz_un hm]; exact huse m hm
theorem l9Unit_c {fns : List Fn} {fl : Bool} (hp : PrOk fns) (hK : ∀ (cs : List CodeD) (H' : Heap), Upd H H' [] → 0 < cs.length → (∀ c ∈ cs, c.fits) → K (.ag [.sl false 3 (codesOf cs)]) H') :
  ACall prog fn_l9Unit [.ag [.sl fl 3 (fnsOf fns)]] H K := by
 refine acall_un ?_
 refine call_sound hmix m_l9Unit ?_
 refine s_reg ?_
 simp only [go_sem]
 intro x2 hx2 H1 h1
 have kn := (Kn.start0 H).al hx2 h1
 refine s_reg ?_
 simp only [go_sem]
 intro x3 hx3 H2 h2
 have kn := kn.al hx3 h2
 have hx32 := kn.l 1 rfl
 simp only [go_sem, s_l9Unit_i0, hx32]
 intro H3 h3
 have kn : Kn H H3 [] [(x2, .st [.sl true 3 []]), (x3, .st [.sl true 3 []])] := kn.stL 1 rfl h3
 refine c_as ?_
 refine s_reg ?_
 simp only [go_sem]
 refine c_seq (c_block (c_loop (fun n e1 H1 => ∃ (i : Nat) (cs : List CodeD) (c : C) (Lg : List (Nat × Obj)), n = fns.length - i ∧ i ≤ fns.length ∧ cs.length = i ∧ (∀ c ∈ cs, c.fits) ∧ Gr Lg 3 (codesOf cs) c ∧ Kn H H1 [] ([(x2, .st [.sl true 3 []]), (x3, .st [c])] ++ Lg) ∧
  e1 = [(1, .c (.pp [.sl fl 3 (fnsOf fns)])), (2, .c (.ptr x2 0)), (3, .c (.ptr x3 0)), (4, .c (.int .i64 i))]) fns.length ?_ ?_))
 ·exact ⟨0, [], _, [], by omega, by omega, rfl, by simp, .nil 3, kn, rfl⟩
 ·rintro n e1 H1 ⟨i, cs, c, Lg, hn1, hi, hcl, hfit, hgr, kn, rfl⟩
  refine c_as ?_
  refine s_reg ?_
  simp only [go_sem, fnsOf_len]
  intro hl
  simp only [LIM] at hl
  have hcow := hgr.isOw
  have hx31 := kn.l 1 rfl
  refine c_seq (c_cond rfl ?_ ?_)
  ·intro hc
   have hlt : i < fns.length := by simpa using hc
   have hm := List.getElem_mem hlt
   refine c_skip ?_
   simp only [go_sem]
   refine c_seq (c_block (c_dreg ?_))
   simp only [go_sem, hx31, hcow]
   refine l9Fn_c hlt (hp.par _ hm) (hp.ok _ hm) (by have := progSize_mem hm; have := hp.size; omega) fun x H4 hu hxf => ?_
   have kn := kn.call0 hu
   have hx34 := kn.l 1 rfl
   simp only [go_sem, s_l9Unit_i2, hx34, hcow, CodeD.cells]
   refine kn.grow (B := [_, _]) (new := [x.cells]) hgr (.mk' _ _ _ _) (by intro r hr; simp only [List.mem_singleton] at hr; subst hr; rfl) (by simp only [codesOf_len, LIM, List.length_cons, List.length_nil]; omega) fun y' H5 kn => ?_
   have hx35 := kn.l 1 rfl
   simp only [go_sem, s_l9Unit_i1, hx35]
   intro H6 h6
   have kn := kn.stL 1 rfl h6
   refine c_reg ?_
   simp only [go_sem, X.next]
   refine ⟨inR64 (by omega) (by omega), fns.length - (i + 1), by omega, i + 1, cs ++ [x], _, _, rfl, by omega, by simp [hcl], fun c' hc' => by
    rcases List.mem_append.1 hc' with h | h
    ·exact hfit c' h
    ·simp at h; subst h; exact hxf, ?_, kn, rfl⟩
   rw [codesOf_snoc]; exact .mk _ _ _ (by simp [codesOf_len])
  ·intro hc
   have hge : fns.length ≤ i := by simpa using hc
   have hx21 := kn.l 0 rfl
   refine c_exit ?_
   simp only [go_sem, X.next]
   refine s_reg ?_
   simp only [go_sem, hx31, hx21, hcow]
   intro H2 h2
   have kn := kn.stL 0 rfl h2
   have hx22 := kn.l 0 rfl
   refine c_ret ?_
   simp only [go_sem, endQ, retT, r_l9Unit, reduceIte, List.mem_singleton, forall_eq, RS.op, hx22, hcow]
   exact ⟨.ag [.sl false 3 (codesOf cs)], FrzL.ag (.cons (hgr.frz (B := [_, _]) kn (codesOf_noOw _)) .nil), hK _ _ kn.fin (by have := hp.pos; omega) hfit⟩
end Go.AE.Y

namespace Go.AE.Y
open Go.Proofs.Tryz
variable {H : Heap} {K : V → Heap → Prop}
set_option maxHeartbeats 2000000 in
theorem UnitValid_c {cs : List CodeD} {fl : Bool} (hfit : ∀ c ∈ cs, c.fits) (hK : ∀ (b : Bool) (H' : Heap), (b = true → cs.length ≤ 4 ∧ 0 < cs.length ∧ ∀ c ∈ cs, c.gd) → Upd H H' [] → K (.c (.bool b)) H') :
  ACall prog fn_sp_UnitValid [.ag [.sl fl 3 (codesOf cs)]] H K := by
 refine acall_un ?_
 refine call_sound hmix m_sp_UnitValid ?_
 have retf : ∀ (b : Bool) (e : Env) (H' : Heap) (L : List (Nat × Obj)), (b = true → cs.length ≤ 4 ∧ 0 < cs.length ∧ ∀ c ∈ cs, c.gd) → Kn H H' [] L → lk 2 e = .c (.bool b) → endQ r_sp_UnitValid (fun x H' => ∃ x', FrzV H' (un H) x x' ∧ K x' (H'.frz (un H))) .ret e H' := by
  intro b e H' L hb kn h3
  simp only [go_sem, endQ, retT, r_sp_UnitValid, List.mem_singleton, forall_eq, RS.op, h3]
  exact ⟨_, .c _ _ (frzc_same rfl), hK _ _ hb kn.fin⟩
 have kn := Kn.start0 H
 refine s_reg ?_
 simp only [go_sem]
 refine c_as ?_
 refine s_reg ?_
 simp only [go_sem, codesOf_len]
 intro hcl
 refine l1In_c ?_
 simp only [go_sem, s_sp_UnitValid_i0]
 refine c_seq (c_cond rfl ?_ ?_)
 ·intro hc
  refine s_reg ?_
  simp only [go_sem]
  refine c_ret ?_
  simp only [go_sem]
  exact retf false _ _ _ (by simp) kn (by simp [lk])
 intro hc
 have hc4 : cs.length ≤ 4 ∧ 0 < cs.length := by
  have : 1 ≤ (cs.length : Int) ∧ (cs.length : Int) ≤ 4 := by simpa using hc
  omega
 refine c_skip ?_
 simp only [go_sem]
 refine s_reg ?_
 simp only [go_sem]
 refine c_as ?_
 refine s_reg ?_
 simp only [go_sem]
 refine c_seq (c_block (c_loop (fun m e1 H1 => ∃ (k n : Nat), m = cs.length - k ∧ k ≤ cs.length ∧ n ≤ k * 160 * 1099511627776 ∧ (∀ (i : Nat) (hi : i < cs.length), i < k → cs[i].gd) ∧ Kn H H1 [] [] ∧ e1 = [(1, .c (.pp [.sl fl 3 (codesOf cs)])), (3, .c (.int .i64 n)), (4, .c (.int .i64 k))]) cs.length ?_ ?_))
 ·exact ⟨0, 0, by omega, by omega, by omega, fun _ _ h => by omega, kn, rfl⟩
 ·rintro m e1 H1 ⟨k, n, hm, hk, hn, hgd, kn, rfl⟩
  refine c_as ?_
  refine s_reg ?_
  simp only [go_sem, codesOf_len]
  intro hcl
  refine c_seq (c_cond rfl ?_ ?_)
  ·intro hc
   have hlt : k < cs.length := by simpa using hc
   refine c_skip ?_
   simp only [go_sem]
   refine c_seq (c_block ?_)
   refine s_reg ?_
   simp only [go_sem, hlt, codesOf_len, codesOf_getD _ _ hlt, CodeD.cells]
   obtain ⟨q, hq⟩ : ∃ q, cs[k] = q := ⟨_, rfl⟩
   rw [hq]
   intro x5 hx5 H2 h2
   have kn := kn.al hx5 h2
   have hx52 := kn.l 0 rfl
   simp only [go_sem, s_sp_UnitValid_i2, hx52]
   intro H3 h3
   have kn : Kn H H3 [] [(x5, .st [.int .i64 q.params, .int .i64 q.regs, .sl false 5 (blksOf q.blocks)])] := kn.stL 0 rfl h3
   have hx53 := kn.l 0 rfl
   refine c_as ?_
   refine s_reg ?_
   simp only [go_sem, hx53]
   refine l1In_c ?_
   simp only [go_sem, s_sp_UnitValid_i5, hx53]
   have rest : ∀ (b : Bool) (E1 : Env), lk 1 E1 = .c (.pp [.sl fl 3 (codesOf cs)]) → lk 3 E1 = .c (.int .i64 n) → lk 4 E1 = .c (.int .i64 k) → lk 5 E1 = .c (.ptr x5 0) → lk 42 E1 = .c (.bool b) → (b = false → 0 ≤ q.regs ∧ q.regs ≤ 300 ∧ 0 < q.blocks.length ∧ q.blocks.length ≤ 160) →
     codeT prog (s_sp_UnitValid_6.seq s_sp_UnitValid_13) (X.inBlock 1 (X.sq prog s_sp_UnitValid_15 (X.next (fun e2 H2 => ∃ m_1, m_1 < m ∧ ∃ (k n : Nat), m_1 = cs.length - k ∧ k ≤ cs.length ∧ n ≤ k * 160 * 1099511627776 ∧ (∀ (i : Nat) (hi : i < cs.length), i < k → cs[i].gd) ∧ Kn H H2 [] [] ∧ e2 = [(1, .c (.pp [.sl fl 3 (codesOf cs)])), (3, .c (.int .i64 n)), (4, .c (.int .i64 k))])
      (X.inBlock 0 (X.sq prog s_sp_UnitValid_18 (endQ r_sp_UnitValid (fun x H' => ∃ x', FrzV H' (un H) x x' ∧ K x' (H'.frz (un H))))))))) E1 H3 := by
    intro b E1 l1 l3 l4 l5 l42 hb
    refine c_seq (c_cond l42 ?_ ?_)
    ·intro hc2
     refine s_reg ?_
     simp only [go_sem]
     refine c_ret ?_
     simp only [go_sem, X.next]
     exact retf false _ _ _ (by simp) kn (by simp [lk])
    intro hc2
    obtain ⟨hr0, hr1, hb0, hbl⟩ := hb hc2
    refine c_skip ?_
    simp only [go_sem]
    refine s_reg ?_
    simp only [go_sem, l1, l3, l4, l5]
    refine c_block (c_loop (fun m e1 H1 => ∃ (j n2 : Nat), m = q.blocks.length - j ∧ j ≤ q.blocks.length ∧ n2 ≤ n + j * 1099511627776 ∧ (∀ (i : Nat) (hi : i < q.blocks.length), i < j → q.blocks[i].next.length ≤ 2) ∧ Kn H H1 [] [(x5, .st [.int .i64 q.params, .int .i64 q.regs, .sl false 5 (blksOf q.blocks)])] ∧
     e1 = [(1, .c (.pp [.sl fl 3 (codesOf cs)])), (3, .c (.int .i64 n2)), (4, .c (.int .i64 k)), (5, .c (.ptr x5 0)), (6, .c (.int .i64 j))]) q.blocks.length ?_ ?_)
    ·exact ⟨0, n, by omega, by omega, by omega, fun _ _ h => by omega, kn, rfl⟩
    ·rintro m2 e1 H4 ⟨j, n2, hm2, hj, hn2, hnx, kn, rfl⟩
     have hx54 := kn.l 0 rfl
     refine c_as ?_
     refine s_reg ?_
     simp only [go_sem, hx54, blksOf_len]
     intro hbl2
     refine c_seq (c_cond rfl ?_ ?_)
     ·intro hc3
      have hjl : j < q.blocks.length := by simpa using hc3
      refine c_skip ?_
      simp only [go_sem]
      refine c_seq (c_block ?_)
      have hqf := hfit _ (List.getElem_mem hlt)
      rw [hq] at hqf
      have hbf := hqf _ (List.getElem_mem hjl)
      have h1 : (j + 1) * 1099511627776 = j * 1099511627776 + 1099511627776 := by rw [Nat.add_mul, Nat.one_mul]
      have h2 : j * 1099511627776 ≤ 160 * 1099511627776 := Nat.mul_le_mul_right _ (by omega)
      have h3 : k * 160 * 1099511627776 ≤ 4 * 160 * 1099511627776 := Nat.mul_le_mul_right _ (Nat.mul_le_mul_right _ (by omega))
      refine s_dreg ?_
      simp only [go_sem, hx54, hjl, blksOf_len, blksOf_getD _ _ hjl, BlkD.cells, insOf_len, phisOf_len]
      refine ⟨inR64 (by omega) (by omega), inR64 (by omega) (by omega), ?_⟩
      refine s_reg ?_
      simp only [go_sem]
      have fin : ∀ (b3 : Bool) (E1 : Env) (H5 : Heap), (b3 = false → q.blocks[j].next.length ≤ 2) → Kn H H5 [] [(x5, .st [.int .i64 q.params, .int .i64 q.regs, .sl false 5 (blksOf q.blocks)])] → lk 1 E1 = .c (.pp [.sl fl 3 (codesOf cs)]) →
        lk 3 E1 = .c (.int .i64 ((n2 + q.blocks[j].ins.length + q.blocks[j].phis.length : Nat) : Int)) → lk 4 E1 = .c (.int .i64 k) → lk 5 E1 = .c (.ptr x5 0) → lk 6 E1 = .c (.int .i64 j) → lk 75 E1 = .c (.bool b3) →
        codeT prog s_sp_UnitValid_8 (X.inBlock 3 (X.sq prog s_sp_UnitValid_10 (X.next (fun e2 H2 => ∃ m, m < m2 ∧ ∃ (j n2 : Nat), m = q.blocks.length - j ∧ j ≤ q.blocks.length ∧ n2 ≤ n + j * 1099511627776 ∧ (∀ (i : Nat) (hi : i < q.blocks.length), i < j → q.blocks[i].next.length ≤ 2) ∧ Kn H H2 [] [(x5, .st [.int .i64 q.params, .int .i64 q.regs, .sl false 5 (blksOf q.blocks)])] ∧
         e2 = [(1, .c (.pp [.sl fl 3 (codesOf cs)])), (3, .c (.int .i64 n2)), (4, .c (.int .i64 k)), (5, .c (.ptr x5 0)), (6, .c (.int .i64 j))])
         (X.inBlock 2 (X.inBlock 1 (X.sq prog s_sp_UnitValid_15 (X.next (fun e2 H2 => ∃ m_1, m_1 < m ∧ ∃ (k n : Nat), m_1 = cs.length - k ∧ k ≤ cs.length ∧ n ≤ k * 160 * 1099511627776 ∧ (∀ (i : Nat) (hi : i < cs.length), i < k → cs[i].gd) ∧ Kn H H2 [] [] ∧ e2 = [(1, .c (.pp [.sl fl 3 (codesOf cs)])), (3, .c (.int .i64 n)), (4, .c (.int .i64 k))])
         (X.inBlock 0 (X.sq prog s_sp_UnitValid_18 (endQ r_sp_UnitValid (fun x H' => ∃ x', FrzV H' (un H) x x' ∧ K x' (H'.frz (un H))))))))))))) E1 H5 := by
       intro b3 E1 H5 hb3 kn l1 l3 l4 l5 l6 l75
       refine c_cond l75 ?_ ?_
       ·intro hc4
        refine s_reg ?_
        simp only [go_sem]
        refine c_ret ?_
        simp only [go_sem, X.next]
        exact retf false _ _ _ (by simp) kn (by simp [lk])
       ·intro hc4
        refine c_skip ?_
        simp only [go_sem]
        refine c_reg ?_
        simp only [go_sem, X.next, l1, l3, l4, l5, l6]
        refine ⟨inR64 (by omega) (by omega), q.blocks.length - (j + 1), by omega, j + 1, _, rfl, by omega, ?_, ?_, kn, rfl⟩
        ·rw [h1]; omega
        ·intro i hi hij
         by_cases hij2 : i < j
         ·exact hnx i hi hij2
         ·have : i = j := by omega
          subst this
          exact hb3 hc4
      refine ⟨fun hb1 => ?_, fun hb1 => ?_⟩
      ·refine l7Block_c hlt (by rw [hq]; exact hjl) (by rw [hq]; exact hr0) (by rw [hq]; exact hr1) (by omega) (by rw [hq]; omega) fun b4 H5 hb4 hu => ?_
       have kn := kn.call0 hu
       simp only [go_sem, s_sp_UnitValid_i7]
       refine fin _ _ _ ?_ kn (by simp [lk]) (by simp [lk]) (by simp [lk]) (by simp [lk]) (by simp [lk]) (by simp [lk]; rfl)
       intro h
       subst hq
       refine hb4 ?_
       cases b4 with
       | true => rfl
       | false => simp at h
      ·replace hb1 := not_f hb1
       simp only [go_sem, s_sp_UnitValid_i7, hb1]
       exact fin true _ _ (by simp) kn (by simp [lk]) (by simp [lk]) (by simp [lk]) (by simp [lk]) (by simp [lk]) (by simp [lk])
     ·intro hc3
      refine c_exit ?_
      simp only [go_sem, X.next]
      refine c_reg ?_
      simp only [go_sem, X.next]
      refine ⟨inR64 (by omega) (by omega), cs.length - (k + 1), by omega, k + 1, n2, rfl, by omega, ?_, ?_, kn.drop (A := []), rfl⟩
      case refine_2 =>
       intro i hi hik
       by_cases hik2 : i < k
       ·exact hgd i hi hik2
       ·have : i = k := by omega
        subst this
        rw [hq]
        have hjq : q.blocks.length ≤ j := by simpa using hc3
        refine ⟨hb0, hbl, fun b hb => ?_, fun b hb => ?_⟩
        ·obtain ⟨i2, hi2, rfl⟩ := List.getElem_of_mem hb
         exact hnx i2 hi2 (by omega)
        ·have hqf := hfit _ (List.getElem_mem hi)
         rw [hq] at hqf
         exact hqf b hb
      have h1 : j * 1099511627776 ≤ 160 * 1099511627776 := Nat.mul_le_mul_right _ (by omega)
      have h2 : (k + 1) * 160 * 1099511627776 = k * 160 * 1099511627776 + 160 * 1099511627776 := by rw [Nat.add_mul, Nat.add_mul, Nat.one_mul]
      omega
   refine ⟨fun hb1 => ?_, fun hb1 => ?_⟩
   ·refine l1In_c ?_
    simp only [go_sem, s_sp_UnitValid_i4, hx53, blksOf_len]
    intro hblim
    refine ⟨fun hb2 => ?_, fun hb2 => ?_⟩
    ·replace hb2 := not_t hb2
     refine l1In_c ?_
     simp only [go_sem, s_sp_UnitValid_i3]
     refine rest _ _ (by simp [lk]) (by simp [lk]) (by simp [lk]) (by simp [lk]) (by simp [lk]; rfl) (fun hb3 => ?_)
     simp at hb3
     omega
    ·replace hb2 := not_f hb2
     simp only [go_sem, s_sp_UnitValid_i3, hb2]
     exact rest true _ (by simp [lk]) (by simp [lk]) (by simp [lk]) (by simp [lk]) (by simp [lk]) (fun h => by simp at h)
   ·replace hb1 := not_f hb1
    simp only [go_sem, s_sp_UnitValid_i4, s_sp_UnitValid_i3, hb1, hx53, blksOf_len, cond_true]
    exact rest true _ (by simp [lk]) (by simp [lk]) (by simp [lk]) (by simp [lk]) (by simp [lk]) (fun h => by simp at h)
  ·intro hc
   refine c_exit ?_
   simp only [go_sem, X.next]
   refine s_reg ?_
   simp only [go_sem]
   refine c_ret ?_
   refine retf true _ _ _ (fun _ => ⟨by omega, by omega, fun c hcm => ?_⟩) kn (by simp [lk])
   obtain ⟨i, hi, rfl⟩ := List.getElem_of_mem hcm
   have hkc : cs.length ≤ k := by simpa using hc
   exact hgd i hi (by omega)
end Go.AE.Y

namespace Go.AE.Y
open Go.Proofs.Tryz
variable {H : Heap} {K : V → Heap → Prop}
def UnitOk (cs : List CodeD) : Prop := 0 < cs.length ∧ cs.length ≤ 4 ∧ ∀ c ∈ cs, c.gd
theorem l10Unit_c {R : Rdr} {k : Nat} (hH : H R.l = R.o k) (hk : k + 7100000 ≤ 2^30)
  (hK : ∀ (cs : List CodeD) (H' : Heap) (k' : Nat), k < k' → k' ≤ k + 7050000 → Upd H H' [(R.l, R.o k')] → UnitOk cs → K (.ag [.sl false 3 (codesOf cs)]) H') :
  ACall prog fn_l10Unit [.c (.ptr R.l 0)] H K := by
 refine acall_un ?_
 refine call_sound hmix m_l10Unit ?_
 refine s_reg ?_
 simp only [go_sem]
 intro x2 hx2 H1 h1
 have kn := (Kn.start1 hH (R.o_ne k)).al hx2 h1
 have tail : ∀ (E1 : Env) (H2 : Heap) (k1 : Nat) (L : List (Nat × Obj)), k < k1 → k1 ≤ k + 7000500 → Kn H H2 [(R.l, R.o k1)] ([(x2, .st [.sl true 3 []])] ++ L) → lk 0 E1 = .c (.ptr R.l 0) → lk 2 E1 = .c (.ptr x2 0) →
   codeT prog s_l10Unit_8 (endQ r_l10Unit fun x H' => ∃ x', FrzV H' (un H) x x' ∧ K x' (H'.frz (un H))) E1 H2 := by
  intro E1 H2 k1 L hk1 hk2 kn l0 l2
  refine s_reg ?_
  simp only [go_sem, l0, l2]
  refine l7Unit_c (kn.e 0 rfl) (by omega) fun cs H3 k2 hk3 hk4 hu hcs0 hcs3 hsm => ?_
  have kn := kn.callE 0 rfl hu (R.o_ne _)
  have hx2 := kn.l 0 rfl
  simp only [go_sem, s_l10Unit_i7, hx2, l2]
  intro H4 h4
  have kn := kn.stL 0 rfl h4
  have hx2 := kn.l 0 rfl
  refine c_ret ?_
  simp only [go_sem, endQ, retT, r_l10Unit, reduceIte, List.mem_singleton, forall_eq, RS.op, hx2]
  exact ⟨_, FrzL.ag (.cons (FrzR.same (codesOf_noOw cs)).sl .nil), hK cs _ k2 (by omega) (by omega) kn.fin ⟨hcs0, by omega, fun c hc => (hsm c hc).gd⟩⟩
 refine c_as ?_
 refine s_reg ?_
 simp only [go_sem]
 refine pick_c (kn.e 0 rfl) (by omega) fun v H2 hv hu => ?_
 have kn := kn.callE 0 rfl hu (R.o_ne _)
 simp only [go_sem, s_l10Unit_i0]
 refine c_seq (c_cond rfl ?_ ?_)
 ·intro hc
  refine s_reg ?_
  simp only [go_sem]
  refine l3Prog_c (kn.e 0 rfl) (by omega) fun l H3 k1 hk1 hk2 hu hp => ?_
  have kn := kn.callE 0 rfl hu (R.o_ne _)
  simp only [go_sem, s_l10Unit_i3]
  refine l9Unit_c hp fun cs H4 hu hcs0 hfit => ?_
  have kn := kn.call0 hu
  simp only [go_sem, s_l10Unit_i2]
  intro x3 hx3 H5 h5
  have kn := kn.al hx3 h5
  have hx3 := kn.l 1 rfl
  simp only [go_sem, s_l10Unit_i1, hx3]
  intro H6 h6
  have kn := kn.stL 1 rfl h6
  have hx3 := kn.l 1 rfl
  refine s_reg ?_
  simp only [go_sem, hx3]
  refine UnitValid_c hfit fun b H7 hb hu => ?_
  have kn := kn.call0 hu
  have hx3 := kn.l 1 rfl
  have hx2 := kn.l 0 rfl
  refine c_cond rfl ?_ ?_
  ·intro hb1
   refine s_reg ?_
   simp only [go_sem, hx3, hx2]
   intro H8 h8
   have kn := kn.stL 0 rfl h8
   have hx2 := kn.l 0 rfl
   refine c_ret ?_
   simp only [go_sem, endQ, retT, r_l10Unit, reduceIte, List.mem_singleton, forall_eq, RS.op, hx2]
   obtain ⟨g1, g2, g3⟩ := hb hb1
   exact ⟨_, FrzL.ag (.cons (FrzR.same (codesOf_noOw cs)).sl .nil), hK cs _ k1 (by omega) (by omega) kn.fin ⟨g2, g1, g3⟩⟩
  ·intro hb1
   refine c_skip ?_
   simp only [go_sem]
   exact tail _ _ k1 [(x3, .st [.sl false 3 (codesOf cs)])] (by omega) (by omega) kn (by simp [lk]) (by simp [lk])
 ·intro hc
  refine c_skip ?_
  simp only [go_sem]
  exact tail _ _ (k + 1) [] (by omega) (by omega) kn (by simp [lk]) (by simp [lk])
theorem l10Bent_c {R : Rdr} {k : Nat} (hH : H R.l = R.o k) (hk : k + 7200000 ≤ 2^30)
  (hK : ∀ (cs : List CodeD) (H' : Heap) (k' : Nat), k < k' → k' ≤ k + 7100000 → Upd H H' [(R.l, R.o k')] → UnitOk cs → K (.ag [.sl false 3 (codesOf cs)]) H') :
  ACall prog fn_l10Bent [.c (.ptr R.l 0)] H K := by
 refine acall_un ?_
 refine call_sound hmix m_l10Bent ?_
 refine s_reg ?_
 simp only [go_sem]
 intro x2 hx2 H1 h1
 have kn := (Kn.start1 hH (R.o_ne k)).al hx2 h1
 refine c_as ?_
 refine s_reg ?_
 simp only [go_sem]
 refine pick_c (kn.e 0 rfl) (by omega) fun v H2 hv hu => ?_
 have kn := kn.callE 0 rfl hu (R.o_ne _)
 simp only [go_sem, s_l10Bent_i0]
 refine c_seq (c_cond rfl ?_ ?_)
 ·intro hc
  refine s_reg ?_
  simp only [go_sem]
  refine l7Bent_c (kn.e 0 rfl) (by omega) fun cs H3 k2 hk3 hk4 hu hcs0 hcs3 hgd => ?_
  have kn := kn.callE 0 rfl hu (R.o_ne _)
  have hx2 := kn.l 0 rfl
  simp only [go_sem, s_l10Bent_i1, hx2]
  intro H4 h4
  have kn := kn.stL 0 rfl h4
  have hx2 := kn.l 0 rfl
  refine c_ret ?_
  simp only [go_sem, endQ, retT, r_l10Bent, reduceIte, List.mem_singleton, forall_eq, RS.op, hx2]
  exact ⟨_, FrzL.ag (.cons (FrzR.same (codesOf_noOw cs)).sl .nil), hK cs _ k2 (by omega) (by omega) kn.fin ⟨hcs0, by omega, hgd⟩⟩
 ·intro hc
  refine c_skip ?_
  simp only [go_sem]
  refine s_reg ?_
  simp only [go_sem]
  refine l10Unit_c (kn.e 0 rfl) (by omega) fun cs H3 k2 hk3 hk4 hu hok => ?_
  have kn := kn.callE 0 rfl hu (R.o_ne _)
  have hx2 := kn.l 0 rfl
  simp only [go_sem, s_l10Bent_i3, hx2]
  intro H4 h4
  have kn := kn.stL 0 rfl h4
  have hx2 := kn.l 0 rfl
  refine c_ret ?_
  simp only [go_sem, endQ, retT, r_l10Bent, reduceIte, List.mem_singleton, forall_eq, RS.op, hx2]
  exact ⟨_, FrzL.ag (.cons (FrzR.same (codesOf_noOw cs)).sl .nil), hK cs _ k2 (by omega) (by omega) kn.fin hok⟩
theorem l10Code_c {R : Rdr} {k : Nat} (hH : H R.l = R.o k) (hk : k + 7200000 ≤ 2^30)
  (hK : ∀ (q : CodeD) (H' : Heap) (k' : Nat), k < k' → k' ≤ k + 7100000 → Upd H H' [(R.l, R.o k')] → q.gd → K (.ag q.cells) H') :
  ACall prog fn_l10Code [.c (.ptr R.l 0)] H K := by
 refine acall_un ?_
 refine call_sound hmix m_l10Code ?_
 refine s_reg ?_
 simp only [go_sem]
 intro x2 hx2 H1 h1
 have kn := (Kn.start1 hH (R.o_ne k)).al hx2 h1
 refine s_reg ?_
 simp only [go_sem]
 refine l10Bent_c (kn.e 0 rfl) (by omega) fun cs H3 k2 hk3 hk4 hu hok => ?_
 have kn := kn.callE 0 rfl hu (R.o_ne _)
 simp only [go_sem, s_l10Code_i1]
 intro x3 hx3 H4 h4
 have kn := kn.al hx3 h4
 have hx3 := kn.l 1 rfl
 simp only [go_sem, s_l10Code_i0, hx3]
 intro H5 h5
 have kn := kn.stL 1 rfl h5
 have hx3 := kn.l 1 rfl
 have hx2 := kn.l 0 rfl
 obtain ⟨h0, h4', hgd⟩ := hok
 have hi : cs.length - 1 < cs.length := by omega
 have e1 : ((cs.length : Int) - 1) = ((cs.length - 1 : Nat) : Int) := by omega
 refine s_reg ?_
 simp only [go_sem, hx3, hx2, codesOf_len, e1, hi, codesOf_getD _ _ hi, CodeD.cells]
 intro _
 refine ⟨inR64 (by omega) (by omega), ?_⟩
 intro H6 h6
 have kn := kn.stL 0 rfl h6
 have hx2 := kn.l 0 rfl
 refine c_ret ?_
 simp only [go_sem, endQ, retT, r_l10Code, reduceIte, List.mem_singleton, forall_eq, RS.op, hx2]
 exact ⟨_, FrzL.ag (FrzL.same (by rfl)), hK (cs[cs.length - 1]) _ k2 (by omega) (by omega) kn.fin (hgd _ (List.getElem_mem hi))⟩
end Go.AE.Y

namespace Go.AE.Y
open Go.Proofs.Tryz
variable {H : Heap} {K : V → Heap → Prop}
theorem l30Open_c {fl : Bool} {bs : List UInt8} (hK : ∀ (R : Rdr) (H' : Heap), H R.l = .none → H' = H.set R.l (R.o 0) → K (.c (.ptr R.l 0)) H') : ACall prog fn_l30Open [.c (.sl fl 1 (bytesOf bs))] H K := by
 refine call_sound hmix m_l30Open ?_
 refine s_reg ?_
 simp only [go_sem]
 refine c_as ?_
 refine s_reg ?_
 simp only [go_sem, bytesOf_len]
 intro _
 have tail : ∀ (fl : Bool) (bs : List UInt8) (E1 : Env), lk 0 E1 = .c (.sl fl 1 (bytesOf bs)) → codeT prog s_l30Open_2 (endQ r_l30Open K) E1 H := by
  intro fl bs E1 l0
  refine s_reg ?_
  simp only [go_sem, l0]
  intro l hl H' h'
  simp only [go_sem, s_l30Open_i1]
  refine c_ret ?_
  simp only [go_sem, endQ, retT, r_l30Open, reduceIte, List.mem_singleton, forall_eq, RS.op]
  exact hK ⟨l, fl, bs⟩ H' hl h'
 refine c_seq (c_cond rfl ?_ ?_)
 ·intro hc
  have h2 : (2000 : Int) < bs.length := by simpa using hc
  refine c_reg ?_
  simp only [go_sem, bytesOf_len]
  refine ⟨⟨by omega, by omega, by omega⟩, ?_⟩
  have ht : List.take 2000 (bytesOf bs) = bytesOf (bs.take 2000) := by simp [bytesOf, List.map_take]
  rw [ht]
  exact tail _ (bs.take 2000) _ (by simp [lk]; rfl)
 ·intro hc
  refine c_skip ?_
  exact tail fl bs _ (by simp [lk])
end Go.AE.Y

namespace Go.AE.Y
def fitsB (n : Nat) (nx : Nat → List Int) : Bool := (List.range n).all (fun i => (nx i).all fun x => decide (0 ≤ x ∧ x ≤ (n : Int) - 1)) && decide (0 < n)
def nxN (nx : Nat → List Int) (b : Nat) : List Nat := (nx b).map Int.toNat
theorem fitsB_mem {n : Nat} {nx : Nat → List Int} (h : fitsB n nx = true) {b : Nat} (hb : b < n) {x : Int} (hx : x ∈ nx b) : 0 ≤ x ∧ x ≤ (n : Int) - 1 := by
 simp only [fitsB, Bool.and_eq_true, List.all_eq_true, List.mem_range, decide_eq_true_eq] at h
 exact h.1 b hb x hx
theorem fitsB_pos {n : Nat} {nx : Nat → List Int} (h : fitsB n nx = true) : 0 < n := by
 simp only [fitsB, Bool.and_eq_true, decide_eq_true_eq] at h
 exact h.2
theorem nxN_lt {n : Nat} {nx : Nat → List Int} (h : fitsB n nx = true) {b : Nat} (hb : b < n) {x : Nat} (hx : x ∈ nxN nx b) : x < n := by
 obtain ⟨y, hy, rfl⟩ := List.mem_map.1 hx
 have := fitsB_mem h hb hy
 omega
inductive Dfs (g : Nat → List Nat) : List Nat → List Bool → List Nat → List Bool → List Nat → Prop
 | nil (S : List Bool) (o : List Nat) : Dfs g [] S o S o
 | skip {x : Nat} {xs : List Nat} {S S' : List Bool} {o o' : List Nat} : S.getD x false = true → Dfs g xs S o S' o' → Dfs g (x :: xs) S o S' o'
 | go {x : Nat} {xs : List Nat} {S S1 S' : List Bool} {o o1 o' : List Nat} : S.getD x false = false → Dfs g (g x) (S.set x true) o S1 o1 → Dfs g xs S1 (o1 ++ [x]) S' o' → Dfs g (x :: xs) S o S' o'
variable {g : Nat → List Nat} {xs : List Nat} {S S' S1 : List Bool} {o o' o1 : List Nat}
theorem Dfs.app (h : Dfs g xs S o S1 o1) : ∀ {ys : List Nat}, Dfs g ys S1 o1 S' o' → Dfs g (xs ++ ys) S o S' o' := by
 induction h with
 | nil S o => exact fun h => h
 | skip h1 h2 ih => exact fun h => .skip h1 (ih h)
 | go h1 h2 h3 ih1 ih2 => exact fun h => .go h1 h2 (ih2 h)
theorem Dfs.one {x : Nat} (h1 : S.getD x false = false) (h : Dfs g (g x) (S.set x true) o S1 o1) : Dfs g [x] S o S1 (o1 ++ [x]) := .go h1 h (.nil _ _)
theorem Dfs.len (h : Dfs g xs S o S' o') : S'.length = S.length := by
 induction h with
 | nil => rfl
 | skip _ _ ih => exact ih
 | go _ _ _ ih1 ih2 => rw [ih2, ih1, List.length_set]
theorem getD_set (S : List Bool) (x y : Nat) : (S.set x true).getD y false = (if y = x ∧ x < S.length then true else S.getD y false) := by
 simp only [List.getD_eq_getElem?_getD, List.getElem?_set]
 by_cases h : x = y
 ·subst h
  by_cases h2 : x < S.length
  ·simp [h2]
  ·simp [h2]
 ·have h' : ¬ y = x := fun hh => h hh.symm
  simp [h, h']
theorem Dfs.mono (h : Dfs g xs S o S' o') : ∀ x, S.getD x false = true → S'.getD x false = true := by
 induction h with
 | nil => exact fun _ h => h
 | skip _ _ ih => exact ih
 | go _ _ _ ih1 ih2 =>
  intro x hx
  refine ih2 x (ih1 x ?_)
  rw [getD_set]
  split
  ·rfl
  ·exact hx
def cnt (S : List Bool) : Nat := S.count true
theorem cnt_set {x : Nat} (hx : x < S.length) (h : S.getD x false = false) : cnt (S.set x true) = cnt S + 1 := by
 induction S generalizing x with
 | nil => simp at hx
 | cons a S ih =>
  cases x with
  | zero =>
   simp at h; subst h
   simp [cnt]
  | succ x =>
   have := ih (x := x) (by simpa using hx) (by simpa using h)
   simp only [cnt, List.set_cons_succ, List.count_cons] at this ⊢
   omega
theorem cnt_le (S : List Bool) : cnt S ≤ S.length := List.count_le_length
theorem Dfs.count (h : Dfs g xs S o S' o') : (∀ x, x < S.length → ∀ y ∈ g x, y < S.length) → (∀ x ∈ xs, x < S.length) → o'.length + cnt S = o.length + cnt S' := by
 induction h with
 | nil => intros; rfl
 | skip _ _ ih => exact fun h1 h2 => ih h1 fun x hx => h2 x (List.mem_cons_of_mem _ hx)
 | @go x xs S S1 S' o o1 o' h1 h2 h3 ih1 ih2 =>
  intro hg hxs
  have hx := hxs x List.mem_cons_self
  have e1 := ih1 (by simpa using hg) (by simpa using hg x hx)
  have hl := h2.len
  rw [List.length_set] at hl
  have e2 := ih2 (by rw [hl]; exact hg) (by rw [hl]; exact fun y hy => hxs y (List.mem_cons_of_mem _ hy))
  rw [cnt_set hx h1] at e1
  simp only [List.length_append, List.length_cons, List.length_nil] at e2
  omega
theorem Dfs.olen (h : Dfs g xs S o S' o') : o.length ≤ o'.length := by
 induction h with
 | nil => exact Nat.le_refl _
 | skip _ _ ih => exact ih
 | go _ _ _ ih1 ih2 => rw [List.length_append] at ih2; omega
theorem Dfs.all (h : Dfs g xs S o S' o') : ∀ P : Nat → Prop, (∀ x, P x → ∀ y ∈ g x, P y) → (∀ x ∈ xs, P x) → (∀ x ∈ o, P x) → ∀ x ∈ o', P x := by
 induction h with
 | nil => exact fun P _ _ h => h
 | skip _ _ ih => exact fun P h1 h2 h3 => ih P h1 (fun x hx => h2 x (List.mem_cons_of_mem _ hx)) h3
 | go h1 h2 h3 ih1 ih2 =>
  intro P hg hxs ho
  have hx := hxs _ List.mem_cons_self
  refine ih2 P hg (fun y hy => hxs y (List.mem_cons_of_mem _ hy)) fun y hy => ?_
  rcases List.mem_append.1 hy with hy | hy
  ·exact ih1 P hg (hg _ hx) ho y hy
  ·simp at hy; subst hy; exact hx
end Go.AE.Y

namespace Go.AE.Y
open Go.Proofs.Tryz
variable {H : Heap} {K : V → Heap → Prop}
structure GRd (H : Heap) (c : C) (rows : List (List C)) (nx : Nat → List Int) : Prop where
 s : Slc H 5 rows c
 ow : c.isOw = false
 no : ∀ r ∈ rows, noOw r = true
 x : ∀ i, i < rows.length → ∃ a1 a2 a3 a4 fl, rows.getD i [] = [a1, a2, a3, a4, .sl fl 1 (intsOf (nx i))]
theorem GRd.keep {c : C} {rows : List (List C)} {nx : Nat → List Int} {H' : Heap} {E L : List (Nat × Obj)} (h : GRd H c rows nx) (kn : Kn H H' E L) (hE : ∀ l a b d, c = .vsl l a b d → l ∉ E.map Prod.fst) : GRd H' c rows nx := ⟨h.s.keep kn hE, h.ow, h.no, h.x⟩
theorem GRd.keep0 {c : C} {rows : List (List C)} {nx : Nat → List Int} {H' : Heap} {L : List (Nat × Obj)} (h : GRd H c rows nx) (kn : Kn H H' [] L) : GRd H' c rows nx := h.keep kn (by simp)
def gnx (q : CodeD) : Nat → List Int := fun i => (q.blocks.map BlkD.next).getD i []
theorem grd_code (H : Heap) (q : CodeD) (fl : Bool) : GRd H (.sl fl 5 (blksOf q.blocks)) (blksOf q.blocks) (gnx q) := by
 refine ⟨.mk' _ _ _ _, rfl, blksOf_noOw _, fun i h => ?_⟩
 rw [blksOf_len] at h
 rw [blksOf_getD _ _ h]
 have : gnx q i = q.blocks[i].next := by simp [gnx, List.getD_eq_getElem?_getD, h]
 exact ⟨.sl false 2 (phisOf q.blocks[i].phis), .sl false 4 (insOf q.blocks[i].ins), .int .i64 q.blocks[i].jump, .int .i64 q.blocks[i].on, false, by rw [this]; rfl⟩
set_option maxHeartbeats 1000000 in
theorem l10Fits_c {p rg : Int} {bc : C} {rows : List (List C)} {nx : Nat → List Int} (hg : GRd H bc rows nx) (hK : K (.c (.bool (fitsB rows.length nx))) H) : ACall prog fn_l10Fits [.ag [.int .i64 p, .int .i64 rg, bc]] H K := by
 refine call_sound hmix m_l10Fits ?_
 have how := hg.ow
 have hok := eq_true hg.s.ok
 have hlen := hg.s.len
 have hsz := hg.s.sz
 have hrw := hg.s.rows
 have retf : ∀ (b : Bool) (e : Env), b = fitsB rows.length nx → lk 2 e = .c (.bool b) → endQ r_l10Fits K .ret e H := by
  intro b e hb h3
  simp only [go_sem, endQ, retT, r_l10Fits, List.mem_singleton, forall_eq, RS.op, h3]
  rw [hb]; exact hK
 refine s_reg ?_
 simp only [go_sem]
 refine c_as ?_
 refine s_reg ?_
 simp only [go_sem]
 refine c_seq (c_block (c_loop (fun m e1 H1 => ∃ (i : Nat), m = rows.length - i ∧ i ≤ rows.length ∧ H1 = H ∧ (∀ j, j < i → ∀ x ∈ nx j, 0 ≤ x ∧ x ≤ (rows.length : Int) - 1) ∧ e1 = [(1, .c (.pp [.int .i64 p, .int .i64 rg, bc])), (3, .c (.int .i64 i))]) rows.length ?_ ?_))
 ·exact ⟨0, by omega, by omega, rfl, fun j hj => by omega, rfl⟩
 ·rintro m e1 H1 ⟨i, hm, hi, rfl, hall, rfl⟩
  refine c_as ?_
  refine s_reg ?_
  simp only [go_sem, how, hok, hlen]
  intro hl
  simp only [LIM] at hl
  refine c_seq (c_cond rfl ?_ ?_)
  ·intro hc
   have hlt : i < rows.length := by simpa using hc
   obtain ⟨a1, a2, a3, a4, fl, hrow⟩ := hg.x i hlt
   refine c_skip ?_
   simp only [go_sem]
   refine c_cut (fun e2 H2 => H2 = H1 ∧ (∀ x ∈ nx i, 0 ≤ x ∧ x ≤ (rows.length : Int) - 1) ∧ lk 1 e2 = .c (.pp [.int .i64 p, .int .i64 rg, bc]) ∧ lk 3 e2 = .c (.int .i64 i)) ?_ ?_
   ·intro Q hn hr _
    refine c_block ?_
    refine s_reg ?_
    simp only [go_sem]
    refine c_block (c_loop (fun m e1 H2 => ∃ (k : Nat), m = (nx i).length - k ∧ k ≤ (nx i).length ∧ H2 = H1 ∧ (∀ x ∈ (nx i).take k, 0 ≤ x ∧ x ≤ (rows.length : Int) - 1) ∧ e1 = [(1, .c (.pp [.int .i64 p, .int .i64 rg, bc])), (3, .c (.int .i64 i)), (4, .c (.int .i64 k))]) (nx i).length ?_ ?_)
    ·exact ⟨0, by omega, by omega, rfl, by simp, rfl⟩
    ·rintro m2 e1 H2 ⟨k, hm2, hk, rfl, hall2, rfl⟩
     refine c_as ?_
     refine s_reg ?_
     simp only [go_sem, how, hok, hlen, hsz, hrw, hlt, hrow, intsOf_len]
     intro hl2
     simp only [LIM] at hl2
     refine c_seq (c_cond rfl ?_ ?_)
     ·intro hc
      have hlt2 : k < (nx i).length := by simpa using hc
      have hgd : (nx i).getD k 0 = (nx i)[k] := by simp [List.getD_eq_getElem?_getD, hlt2]
      refine c_skip ?_
      simp only [go_sem]
      refine c_seq (c_block ?_)
      refine s_dreg ?_
      simp only [go_sem, how, hok, hlen, hsz, hrw, hlt, hrow, hlt2, intsOf_len, intsOf_getD _ _ hlt2, hgd]
      refine ⟨inR64 (by omega) (by omega), ?_⟩
      refine l1In_c ?_
      simp only [go_sem, s_l10Fits_i0]
      refine c_cond rfl ?_ ?_
      ·intro hc2
       refine s_reg ?_
       simp only [go_sem]
       refine c_ret ?_
       simp only [go_sem, X.next]
       refine hr _ _ (retf false _ ?_ (by simp [lk]))
       cases hf : fitsB rows.length nx with
       | false => rfl
       | true =>
        have := fitsB_mem hf hlt (List.getElem_mem hlt2)
        simp at hc2
        omega
      ·intro hc2
       refine c_skip ?_
       simp only [go_sem]
       refine c_reg ?_
       simp only [go_sem, X.next]
       refine ⟨inR64 (by omega) (by omega), (nx i).length - (k + 1), by omega, k + 1, rfl, by omega, fun x hx => ?_, rfl⟩
       rw [List.take_succ_eq_append_getElem hlt2] at hx
       rcases List.mem_append.1 hx with hx | hx
       ·exact hall2 x hx
       ·simp only [List.mem_singleton] at hx; subst hx
        simpa using hc2
     ·intro hc
      have hge : (nx i).length ≤ k := by simpa using hc
      rw [List.take_of_length_le hge] at hall2
      refine c_exit ?_
      simp only [go_sem, X.next]
      exact hn _ _ ⟨rfl, hall2, by simp [lk], by simp [lk]⟩
   ·rintro e2 H2 ⟨rfl, hx, l1, l3⟩
    refine c_reg ?_
    simp only [go_sem, X.next, l1, l3]
    refine ⟨inR64 (by omega) (by omega), rows.length - (i + 1), by omega, i + 1, rfl, by omega, fun j hj => ?_, rfl⟩
    by_cases h : j < i
    ·exact hall j h
    ·have : j = i := by omega
     subst this; exact hx
  ·intro hc
   have hge : i = rows.length := by have : ¬ i < rows.length := (by simpa using hc); omega
   subst hge
   refine c_exit ?_
   simp only [go_sem, X.next]
   refine s_reg ?_
   simp only [go_sem, how, hok, hlen]
   intro _
   refine c_ret ?_
   refine retf _ _ ?_ (by simp [lk]; rfl)
   have : (List.range rows.length).all (fun i => (nx i).all fun x => decide (0 ≤ x ∧ x ≤ (rows.length : Int) - 1)) = true := by
    simp only [List.all_eq_true, List.mem_range, decide_eq_true_eq]
    exact hall
   simp only [fitsB, this, Bool.true_and]
   try (by_cases h : 0 < rows.length <;> simp [h])
end Go.AE.Y

namespace Go.AE.Y
open Go.Proofs.Tryz
def boolsOf (S : List Bool) : List (List C) := S.map fun b => [.bool b]
theorem boolsOf_len (S : List Bool) : (boolsOf S).length = S.length := by simp [boolsOf]
theorem boolsOf_getD (S : List Bool) (i : Nat) (h : i < S.length) : (boolsOf S).getD i [] = [.bool (S.getD i false)] := by
 simp [boolsOf, List.getD_eq_getElem?_getD, h]
theorem boolsOf_set (S : List Bool) (i : Nat) (b : Bool) : (boolsOf S).set i [.bool b] = boolsOf (S.set i b) := by simp [boolsOf, List.map_set]
theorem boolsOf_noOw (S : List Bool) : ∀ r ∈ boolsOf S, noOw r = true := by intro r hr; obtain ⟨x, _, rfl⟩ := List.mem_map.1 hr; rfl
def natsOf (l : List Nat) : List (List C) := intsOf (l.map Int.ofNat)
theorem natsOf_len (l : List Nat) : (natsOf l).length = l.length := by simp [natsOf, intsOf_len]
theorem natsOf_snoc (l : List Nat) (n : Nat) : natsOf l ++ [[.int .i64 (n : Int)]] = natsOf (l ++ [n]) := by simp [natsOf, intsOf]
theorem natsOf_noOw (l : List Nat) : ∀ r ∈ natsOf l, noOw r = true := intsOf_noOw _
set_option maxHeartbeats 2000000 in
theorem l10Visit_c {F : Heap} {p rg : Int} {bc : C} {rows : List (List C)} {nx : Nat → List Int} {y : Nat} (hfit : fitsB rows.length nx = true) (hn : rows.length ≤ 1000000) (hg : GRd F bc rows nx) (hyb : ∀ l a b d, bc = .vsl l a b d → l ≠ y) :
  ∀ (u b : Nat) (S : List Bool) (o : List Nat) (oc : C) (Lg : List (Nat × Obj)) (H : Heap) (K : V → Heap → Prop), S.length = rows.length → rows.length - cnt S ≤ u → b < rows.length → S.getD b false = false →
   Kn F H [(y, .vec 1 (boolsOf S))] ([] ++ Lg) → Gr Lg 1 (natsOf o) oc → o.length ≤ cnt S →
   (∀ (S' : List Bool) (o' : List Nat) (oc' : C) (Lg' : List (Nat × Obj)) (H' : Heap), Dfs (nxN nx) [b] S o S' o' → Kn F H' [(y, .vec 1 (boolsOf S'))] ([] ++ Lg') → Gr Lg' 1 (natsOf o') oc' → K (.c oc') H') →
   ACall prog fn_l10Visit [.ag [.int .i64 p, .int .i64 rg, bc], .c (.int .i64 b), .c (.vsl y 1 0 rows.length), .c oc] H K := by
 intro u
 induction u with
 | zero =>
  intro b S o oc Lg H K hS hu hb hsb
  have h1 := cnt_set (S := S) (x := b) (by omega) hsb
  have h2 := cnt_le (S.set b true)
  rw [List.length_set] at h2
  omega
 | succ u ih =>
  intro b S o oc Lg H K hS hu hb hsb kn hgr hol hK
  have how := hg.ow
  have hbS : b < S.length := by omega
  obtain ⟨a1, a2, a3, a4, fl, hrow⟩ := hg.x b hb
  have hsz := hg.s.sz
  have hlen := hg.s.len
  have hy := kn.e 0 rfl
  have hocw := hgr.isOw
  refine call_sound hmix m_l10Visit ?_
  refine s_reg ?_
  simp only [go_sem, how]
  refine s_reg ?_
  have htk : List.take rows.length (boolsOf S) = boolsOf S := List.take_of_length_le (by rw [boolsOf_len]; omega)
  simp only [go_sem, hy, hb, hbS, boolsOf_len, hS, boolsOf_getD _ _ hbS, boolsOf_set, List.drop_zero, Nat.zero_add, Nat.le_refl]
  intro H1 h1
  have kn := kn.stE 0 rfl h1
  have hcS := cnt_set hbS hsb
  have hnxl : (nxN nx b).length = (nx b).length := by simp [nxN]
  refine c_as ?_
  refine s_reg ?_
  simp only [go_sem]
  refine c_seq (c_block (c_loop (fun m e1 H1 => ∃ (i : Nat) (S1 : List Bool) (o1 : List Nat) (oc1 : C) (Lg1 : List (Nat × Obj)), m = (nx b).length - i ∧ i ≤ (nx b).length ∧ Dfs (nxN nx) ((nxN nx b).take i) (S.set b true) o S1 o1 ∧
   Kn F H1 [(y, .vec 1 (boolsOf S1))] ([] ++ Lg1) ∧ Gr Lg1 1 (natsOf o1) oc1 ∧
   e1 = [(1, .c (.int .i64 b)), (2, .c (.vsl y 1 0 rows.length)), (3, .c oc1), (4, .c (.pp [.int .i64 p, .int .i64 rg, bc])), (9, .c (.int .i64 i))]) (nx b).length ?_ ?_))
  ·exact ⟨0, _, o, oc, Lg, by omega, by omega, .nil _ _, kn, hgr, rfl⟩
  ·rintro m e1 H2 ⟨i, S1, o1, oc1, Lg1, hm, hi, hd, kn, hgr, rfl⟩
   have hgd : ∀ x, x < (S.set b true).length → ∀ z ∈ nxN nx x, z < (S.set b true).length := by
    rw [List.length_set, hS]
    exact fun x hx z hz => nxN_lt hfit hx hz
   have hd1 := hd.len
   rw [List.length_set, hS] at hd1
   have hd2 := hd.count hgd (fun x hx => hgd b (by rw [List.length_set]; exact hbS) x (List.mem_of_mem_take hx))
   have hd3 := hd.olen
   have hd4 := cnt_le S1
   have hg2 := hg.keep kn (fun l a b d hh => by simpa using hyb l a b d hh)
   have hok2 := eq_true hg2.s.ok
   have hrw2 := hg2.s.rows
   have hy := kn.e 0 rfl
   refine c_as ?_
   refine s_reg ?_
   simp only [go_sem, how, hok2, hlen, hsz, hrw2, hb, hrow, intsOf_len]
   intro hl
   simp only [LIM] at hl
   refine c_seq (c_cond rfl ?_ ?_)
   ·intro hc
    have hlt : i < (nx b).length := by simpa using hc
    obtain ⟨w, hw⟩ : ∃ w : Nat, (nx b).getD i 0 = w := by
     have h1 := fitsB_mem hfit hb (List.getElem_mem hlt)
     refine ⟨((nx b)[i]).toNat, ?_⟩
     simp only [List.getD_eq_getElem?_getD, List.getElem?_eq_getElem hlt, Option.getD_some]
     omega
    have hwn : (nxN nx b).take (i + 1) = (nxN nx b).take i ++ [w] := by
     rw [List.take_succ_eq_append_getElem (by rw [hnxl]; exact hlt)]
     congr 1
     simp only [nxN, List.getElem_map]
     simp only [List.getD_eq_getElem?_getD, List.getElem?_eq_getElem hlt, Option.getD_some] at hw
     rw [hw]; simp
    have hwl : w < rows.length := nxN_lt hfit hb (x := w) (by
     have : w ∈ (nxN nx b).take (i + 1) := by rw [hwn]; simp
     exact List.mem_of_mem_take this)
    have hwS : w < S1.length := by omega
    refine c_skip ?_
    simp only [go_sem]
    refine c_cut (fun e2 H2 => ∃ (S2 : List Bool) (o2 : List Nat) (oc2 : C) (Lg2 : List (Nat × Obj)), Dfs (nxN nx) ((nxN nx b).take (i + 1)) (S.set b true) o S2 o2 ∧
     Kn F H2 [(y, .vec 1 (boolsOf S2))] ([] ++ Lg2) ∧ Gr Lg2 1 (natsOf o2) oc2 ∧
     lk 1 e2 = .c (.int .i64 b) ∧ lk 2 e2 = .c (.vsl y 1 0 rows.length) ∧ lk 3 e2 = .c oc2 ∧ lk 4 e2 = .c (.pp [.int .i64 p, .int .i64 rg, bc]) ∧ lk 9 e2 = .c (.int .i64 i)) ?_ ?_
    ·intro Q hnr _ _
     have htk2 : List.take rows.length (boolsOf S1) = boolsOf S1 := List.take_of_length_le (by rw [boolsOf_len]; omega)
     refine c_block ?_
     refine s_reg ?_
     simp only [go_sem, how, hok2, hlen, hsz, hrw2, hb, hrow, hlt, hy, hw, hwl, hwS, htk2, hd1, boolsOf_len, boolsOf_getD _ _ hwS, intsOf_len, intsOf_getD _ _ hlt, List.drop_zero, Nat.zero_add, Nat.le_refl]
     refine c_cond rfl ?_ ?_
     ·intro hc2
      have hsw : S1.getD w false = false := not_t hc2
      refine c_dreg ?_
      simp only [go_sem, how, hok2, hlen, hsz, hrw2, hb, hrow, hlt, hw, intsOf_len, intsOf_getD _ _ hlt, hgr.isOw]
      refine ih w S1 o1 oc1 Lg1 H2 _ hd1 (by omega) hwl hsw kn hgr (by omega) fun S2 o2 oc2 Lg2 H3 hd' kn hgr => ?_
      simp only [go_sem, s_l10Visit_i0]
      refine hnr _ _ ⟨S2, o2, oc2, Lg2, ?_, kn, hgr, rfl, rfl, rfl, rfl, rfl⟩
      rw [hwn]; exact hd.app hd'
     ·intro hc2
      have hsw : S1.getD w false = true := not_f hc2
      refine c_skip ?_
      simp only [go_sem]
      refine hnr _ _ ⟨S1, o1, oc1, Lg1, ?_, kn, hgr, rfl, rfl, rfl, rfl, rfl⟩
      rw [hwn]; exact hd.app (.skip hsw (.nil _ _))
    ·rintro e2 H3 ⟨S2, o2, oc2, Lg2, hd, kn, hgr, l1, l2, l3, l4, l9⟩
     refine c_reg ?_
     simp only [go_sem, X.next, l1, l2, l3, l4, l9]
     exact ⟨inR64 (by omega) (by omega), (nx b).length - (i + 1), by omega, i + 1, S2, o2, oc2, Lg2, rfl, by omega, hd, kn, hgr, rfl⟩
   ·intro hc
    have hge : (nx b).length ≤ i := by simpa using hc
    rw [List.take_of_length_le (by rw [hnxl]; exact hge)] at hd
    have hocw := hgr.isOw
    refine c_exit ?_
    simp only [go_sem, X.next]
    refine s_reg ?_
    simp only [go_sem, hocw]
    refine kn.grow (new := intsOf [(b : Int)]) hgr (.mk' _ _ _ _) (intsOf_noOw _) (by simp only [natsOf_len, intsOf_len, LIM, List.length_cons, List.length_nil]; omega) fun z H3 kn => ?_
    simp only [go_sem, s_l10Visit_i5]
    refine c_ret ?_
    simp only [go_sem, endQ, retT, r_l10Visit, reduceIte, List.mem_singleton, forall_eq, RS.op]
    refine hK S1 (o1 ++ [b]) _ _ H3 (.one hsb hd) kn ?_
    rw [← natsOf_snoc]
    exact .mk _ _ _ (by simp)
end Go.AE.Y

namespace Go.AE.Y
open Go.Proofs.Tryz
variable {H : Heap} {K : V → Heap → Prop}
theorem within_c {n lo hi : Int} (hK : K (.c (.bool (decide (lo ≤ n) && decide (n ≤ hi)))) H) : ACall prog fn_im_within [.c (.int .i64 n), .c (.int .i64 lo), .c (.int .i64 hi)] H K := by
 refine call_sound hmix m_im_within ?_
 refine s_reg ?_
 simp only [go_sem]
 refine s_reg ?_
 simp only [go_sem]
 refine c_ret ?_
 simp only [go_sem, endQ, retT, r_im_within, List.mem_singleton, forall_eq, RS.op]
 have : (bif decide (lo ≤ n) then decide (n ≤ hi) else false) = (decide (lo ≤ n) && decide (n ≤ hi)) := by cases decide (lo ≤ n) <;> rfl
 first | exact hK | (rw [this]; exact hK) | (simpa [this] using hK)
def IsIx (ns : List Int) (v r : Int) : Prop := (r = -1 ∧ v ∉ ns) ∨ ∃ i : Nat, r = i ∧ i < ns.length ∧ ns.getD i 0 = v ∧ v ∉ ns.take i
theorem IsIx.nonneg {ns : List Int} {v r : Int} (h : IsIx ns v r) : decide (0 ≤ r) = ns.contains v := by
 rcases h with ⟨rfl, hn⟩ | ⟨i, rfl, h1, h2, _⟩
 ·have : ns.contains v = false := by
   cases hc : ns.contains v with
   | false => rfl
   | true => exact absurd (List.contains_iff_mem.1 hc) hn
  rw [this]; rfl
 ·have : v ∈ ns := by
   rw [← h2, List.getD_eq_getElem?_getD, List.getElem?_eq_getElem h1]; exact List.getElem_mem h1
  rw [List.contains_iff_mem.2 this]; simp
theorem Index_c {c : C} {ns : List Int} {v : Int} (hs : Slc H 1 (intsOf ns) c) (how : c.isOw = false) (hK : ∀ r, IsIx ns v r → K (.c (.int .i64 r)) H) :
  ACall prog fn_sl_Index [.c c, .c (.int .i64 v)] H K := by
 refine call_sound hmix m_sl_Index ?_
 have hok := eq_true hs.ok
 have hlen := hs.len
 have hsz := hs.sz
 have hrw := hs.rows
 refine s_reg ?_
 simp only [go_sem, how]
 refine c_as ?_
 refine s_reg ?_
 simp only [go_sem, how, hok, hlen, intsOf_len]
 intro hl
 simp only [LIM] at hl
 refine c_seq (c_block (c_loop (fun m e1 H1 => ∃ (i : Nat), m = ns.length - i ∧ i ≤ ns.length ∧ H1 = H ∧ v ∉ ns.take i ∧ e1 = [(0, .c c), (1, .c (.int .i64 v)), (7, .c (.int .i64 ns.length)), (8, .c (.int .i64 i))]) ns.length ?_ ?_))
 ·exact ⟨0, by omega, by omega, rfl, by simp, rfl⟩
 ·rintro m e1 H1 ⟨i, hm, hi, rfl, hno, rfl⟩
  refine s_reg ?_
  simp only [go_sem, how]
  refine c_seq (c_cond rfl ?_ ?_)
  ·intro hc
   have hlt : i < ns.length := by simpa using hc
   have hgd : ns.getD i 0 = ns[i] := by simp [List.getD_eq_getElem?_getD, hlt]
   refine c_skip ?_
   simp only [go_sem]
   refine c_seq (c_block ?_)
   refine s_reg ?_
   simp only [go_sem, how]
   refine s_reg ?_
   simp only [go_sem, how, hok, hlen, hsz, hrw, hlt, intsOf_len, intsOf_getD _ _ hlt]
   refine c_cond rfl ?_ ?_
   ·intro hc2
    have hv : v = ns.getD i 0 := by simpa using hc2
    refine s_reg ?_
    simp only [go_sem]
    refine c_ret ?_
    simp only [go_sem, X.next, endQ, retT, r_sl_Index, List.mem_singleton, forall_eq, RS.op]
    exact hK _ (.inr ⟨i, rfl, hlt, hv.symm, hno⟩)
   ·intro hc2
    have hv : ¬ v = ns.getD i 0 := by simpa using hc2
    refine c_skip ?_
    simp only [go_sem]
    refine c_reg ?_
    simp only [go_sem, X.next]
    refine ⟨inR64 (by omega) (by omega), ns.length - (i + 1), by omega, i + 1, rfl, by omega, ?_, rfl⟩
    rw [List.take_succ_eq_append_getElem hlt]
    simp only [List.mem_append, List.mem_singleton, not_or]
    exact ⟨hno, fun h => hv (by rw [hgd]; exact h)⟩
  ·intro hc
   have hge : ns.length ≤ i := by simpa using hc
   rw [List.take_of_length_le hge] at hno
   refine c_exit ?_
   simp only [go_sem, X.next]
   refine s_reg ?_
   simp only [go_sem]
   refine c_ret ?_
   simp only [go_sem, endQ, retT, r_sl_Index, List.mem_singleton, forall_eq, RS.op]
   exact hK _ (.inl ⟨rfl, hno⟩)
theorem Contains_c {c : C} {ns : List Int} {v : Int} (hs : Slc H 1 (intsOf ns) c) (how : c.isOw = false) (hK : K (.c (.bool (ns.contains v))) H) :
  ACall prog fn_sl_Contains [.c c, .c (.int .i64 v)] H K := by
 refine call_sound hmix m_sl_Contains ?_
 refine s_reg ?_
 simp only [go_sem, how]
 refine s_reg ?_
 simp only [go_sem, how]
 refine Index_c hs how fun r hr => ?_
 simp only [go_sem, s_sl_Contains_i0]
 refine c_ret ?_
 simp only [go_sem, endQ, retT, r_sl_Contains, List.mem_singleton, forall_eq, RS.op]
 rw [hr.nonneg]; exact hK
theorem IndexFunc_c {c : C} {ns : List Int} {f : Nat} {caps : List C} {p : Int → Bool} (hs : Slc H 1 (intsOf ns) c) (how : c.isOw = false)
  (hf : ∀ (x : Int) (K' : V → Heap → Prop), x ∈ ns → K' (.c (.bool (p x))) H → ACall prog f ([.c (.int .i64 x)] ++ caps.map .c) H K')
  (hK : ∀ r : Int, decide (0 ≤ r) = ns.any p → K (.c (.int .i64 r)) H) :
  ACall prog fn_sl_IndexFunc [.c c, .c (.fn f caps)] H K := by
 refine call_sound hmix m_sl_IndexFunc ?_
 have hok := eq_true hs.ok
 have hlen := hs.len
 have hsz := hs.sz
 have hrw := hs.rows
 refine s_reg ?_
 simp only [go_sem, how]
 refine c_as ?_
 refine s_reg ?_
 simp only [go_sem, how, hok, hlen, intsOf_len]
 intro hl
 simp only [LIM] at hl
 refine c_seq (c_block (c_loop (fun m e1 H1 => ∃ (i : Nat), m = ns.length - i ∧ i ≤ ns.length ∧ H1 = H ∧ (∀ x ∈ ns.take i, p x = false) ∧ e1 = [(0, .c c), (1, .c (.fn f caps)), (7, .c (.int .i64 ns.length)), (8, .c (.int .i64 i))]) ns.length ?_ ?_))
 ·exact ⟨0, by omega, by omega, rfl, by simp, rfl⟩
 ·rintro m e1 H1 ⟨i, hm, hi, rfl, hno, rfl⟩
  refine s_reg ?_
  simp only [go_sem, how]
  refine c_seq (c_cond rfl ?_ ?_)
  ·intro hc
   have hlt : i < ns.length := by simpa using hc
   have hgd : ns.getD i 0 = ns[i] := by simp [List.getD_eq_getElem?_getD, hlt]
   refine c_skip ?_
   simp only [go_sem]
   refine c_seq (c_block ?_)
   refine s_reg ?_
   simp only [go_sem, how]
   refine s_reg ?_
   simp only [go_sem, how, hok, hlen, hsz, hrw, hlt, intsOf_len, intsOf_getD _ _ hlt]
   refine hf _ _ (by rw [hgd]; exact List.getElem_mem hlt) ?_
   refine c_cond rfl ?_ ?_
   ·intro hc2
    refine s_reg ?_
    simp only [go_sem]
    refine c_ret ?_
    simp only [go_sem, X.next, endQ, retT, r_sl_IndexFunc, List.mem_singleton, forall_eq, RS.op]
    refine hK _ ?_
    have : ns.any p = true := List.any_eq_true.2 ⟨ns[i], List.getElem_mem hlt, by rw [← hgd]; exact hc2⟩
    rw [this]; simp
   ·intro hc2
    refine c_skip ?_
    simp only [go_sem]
    refine c_reg ?_
    simp only [go_sem, X.next]
    refine ⟨inR64 (by omega) (by omega), ns.length - (i + 1), by omega, i + 1, rfl, by omega, ?_, rfl⟩
    rw [List.take_succ_eq_append_getElem hlt]
    intro x hx
    rcases List.mem_append.1 hx with hx | hx
    ·exact hno x hx
    ·simp only [List.mem_singleton] at hx; subst hx; rw [← hgd]; exact hc2
  ·intro hc
   have hge : ns.length ≤ i := by simpa using hc
   rw [List.take_of_length_le hge] at hno
   refine c_exit ?_
   simp only [go_sem, X.next]
   refine s_reg ?_
   simp only [go_sem]
   refine c_ret ?_
   simp only [go_sem, endQ, retT, r_sl_IndexFunc, List.mem_singleton, forall_eq, RS.op]
   refine hK _ ?_
   have : ns.any p = false := by
    cases hc : ns.any p with
    | false => rfl
    | true => obtain ⟨x, hx, hp⟩ := List.any_eq_true.1 hc; rw [hno x hx] at hp; exact absurd hp (by simp)
   rw [this]; rfl
theorem ContainsFunc_c {c : C} {ns : List Int} {f : Nat} {caps : List C} {p : Int → Bool} (hs : Slc H 1 (intsOf ns) c) (how : c.isOw = false)
  (hf : ∀ (x : Int) (K' : V → Heap → Prop), x ∈ ns → K' (.c (.bool (p x))) H → ACall prog f ([.c (.int .i64 x)] ++ caps.map .c) H K')
  (hK : K (.c (.bool (ns.any p))) H) : ACall prog fn_sl_ContainsFunc [.c c, .c (.fn f caps)] H K := by
 refine call_sound hmix m_sl_ContainsFunc ?_
 refine s_reg ?_
 simp only [go_sem, how]
 refine s_reg ?_
 simp only [go_sem, how]
 refine IndexFunc_c hs how hf fun r hr => ?_
 simp only [go_sem, s_sl_ContainsFunc_i0]
 refine c_ret ?_
 simp only [go_sem, endQ, retT, r_sl_ContainsFunc, List.mem_singleton, forall_eq, RS.op]
 rw [hr]; exact hK
theorem IndexFuncB_c {c : C} {rows : List (List C)} {f : Nat} {caps : List C} {p : Nat → Bool} (hs : Slc H 5 rows c) (how : c.isOw = false) (hno : ∀ r ∈ rows, noOw r = true) (h5 : ∀ i, i < rows.length → (rows.getD i []).length = 5)
  (hf : ∀ (i : Nat) (K' : V → Heap → Prop), i < rows.length → K' (.c (.bool (p i))) H → ACall prog f ([.ag (rows.getD i [])] ++ caps.map .c) H K')
  (hK : ∀ r : Int, decide (0 ≤ r) = (List.range rows.length).any p → K (.c (.int .i64 r)) H) :
  ACall prog fn_sl_IndexFunc_Block [.c c, .c (.fn f caps)] H K := by
 refine call_sound hmix m_sl_IndexFunc_Block ?_
 have hok := eq_true hs.ok
 have hlen := hs.len
 have hsz := hs.sz
 have hrw := hs.rows
 refine s_reg ?_
 simp only [go_sem, how]
 refine c_as ?_
 refine s_reg ?_
 simp only [go_sem, how, hok, hlen]
 intro hl
 simp only [LIM] at hl
 refine c_seq (c_block (c_loop (fun m e1 H1 => ∃ (i : Nat), m = rows.length - i ∧ i ≤ rows.length ∧ H1 = H ∧ (∀ x, x < i → p x = false) ∧ e1 = [(0, .c c), (1, .c (.fn f caps)), (7, .c (.int .i64 rows.length)), (8, .c (.int .i64 i))]) rows.length ?_ ?_))
 ·exact ⟨0, by omega, by omega, rfl, by simp, rfl⟩
 ·rintro m e1 H1 ⟨i, hm, hi, rfl, hall, rfl⟩
  refine s_reg ?_
  simp only [go_sem, how]
  refine c_seq (c_cond rfl ?_ ?_)
  ·intro hc
   have hlt : i < rows.length := by simpa using hc
   have htk : (rows.getD i []).take 5 = rows.getD i [] := List.take_of_length_le (by rw [h5 i hlt]; omega)
   have hle : (5 ≤ (rows.getD i []).length) = True := eq_true (by rw [h5 i hlt]; omega)
   have hnw : noOw (rows.getD i []) = true := hno _ (by rw [List.getD_eq_getElem?_getD, List.getElem?_eq_getElem hlt]; exact List.getElem_mem hlt)
   have haw : ((rows.getD i []).all fun c => !c.isOw) = true := hnw
   refine c_skip ?_
   simp only [go_sem]
   refine c_seq (c_block ?_)
   refine s_reg ?_
   simp only [go_sem, how]
   refine s_reg ?_
   simp only [go_sem, how, hok, hlen, hsz, hrw, hlt, htk, hle, hnw, haw, List.drop_zero]
   refine hf _ _ hlt ?_
   refine c_cond rfl ?_ ?_
   ·intro hc2
    refine s_reg ?_
    simp only [go_sem]
    refine c_ret ?_
    simp only [go_sem, X.next, endQ, retT, r_sl_IndexFunc_Block, List.mem_singleton, forall_eq, RS.op]
    refine hK _ ?_
    have : (List.range rows.length).any p = true := List.any_eq_true.2 ⟨i, List.mem_range.2 hlt, hc2⟩
    rw [this]; simp
   ·intro hc2
    refine c_skip ?_
    simp only [go_sem]
    refine c_reg ?_
    simp only [go_sem, X.next]
    refine ⟨inR64 (by omega) (by omega), rows.length - (i + 1), by omega, i + 1, rfl, by omega, ?_, rfl⟩
    intro x hx
    by_cases h : x < i
    ·exact hall x h
    ·have : x = i := by omega
     subst this; exact hc2
  ·intro hc
   have hge : rows.length ≤ i := by simpa using hc
   refine c_exit ?_
   simp only [go_sem, X.next]
   refine s_reg ?_
   simp only [go_sem]
   refine c_ret ?_
   simp only [go_sem, endQ, retT, r_sl_IndexFunc_Block, List.mem_singleton, forall_eq, RS.op]
   refine hK _ ?_
   have : (List.range rows.length).any p = false := by
    cases hc : (List.range rows.length).any p with
    | false => rfl
    | true => obtain ⟨x, hx, hp⟩ := List.any_eq_true.1 hc; rw [hall x (by have := List.mem_range.1 hx; omega)] at hp; exact absurd hp (by simp)
   rw [this]; rfl
theorem ContainsFuncB_c {c : C} {rows : List (List C)} {f : Nat} {caps : List C} {p : Nat → Bool} (hs : Slc H 5 rows c) (how : c.isOw = false) (hno : ∀ r ∈ rows, noOw r = true) (h5 : ∀ i, i < rows.length → (rows.getD i []).length = 5)
  (hf : ∀ (i : Nat) (K' : V → Heap → Prop), i < rows.length → K' (.c (.bool (p i))) H → ACall prog f ([.ag (rows.getD i [])] ++ caps.map .c) H K')
  (hK : K (.c (.bool ((List.range rows.length).any p))) H) : ACall prog fn_sl_ContainsFunc_Block [.c c, .c (.fn f caps)] H K := by
 refine call_sound hmix m_sl_ContainsFunc_Block ?_
 refine s_reg ?_
 simp only [go_sem, how]
 refine s_reg ?_
 simp only [go_sem, how]
 refine IndexFuncB_c hs how hno h5 hf fun r hr => ?_
 simp only [go_sem, s_sl_ContainsFunc_Block_i0]
 refine c_ret ?_
 simp only [go_sem, endQ, retT, r_sl_ContainsFunc_Block, List.mem_singleton, forall_eq, RS.op]
 rw [hr]; exact hK
theorem graphOk_c {p rg : Int} {bc : C} {rows : List (List C)} {nx : Nat → List Int} (hg : GRd H bc rows nx) (hK : K (.c (.bool (fitsB rows.length nx))) H) : ACall prog fn_im_graphOk [.ag [.int .i64 p, .int .i64 rg, bc]] H K := by
 have how := hg.ow
 have hok := eq_true hg.s.ok
 have hlen := hg.s.len
 have h5 : ∀ i, i < rows.length → (rows.getD i []).length = 5 := fun i hi => by obtain ⟨a1, a2, a3, a4, fl, h⟩ := hg.x i hi; rw [h]; rfl
 refine call_sound hmix m_im_graphOk ?_
 refine s_reg ?_
 simp only [go_sem, how]
 refine s_reg ?_
 simp only [go_sem, how, hok, hlen]
 intro hl
 simp only [LIM] at hl
 refine ⟨fun hc => ?_, fun hc => ?_⟩
 ·have hn : 0 < rows.length := by simpa using hc
  refine ContainsFuncB_c (p := fun i => (nx i).any fun x => !(decide (0 ≤ x) && decide (x ≤ (rows.length : Int) - 1))) hg.s how hg.no h5 (fun i K' hi hK' => ?_) ?_
  ·obtain ⟨a1, a2, a3, a4, fl, hrow⟩ := hg.x i hi
   rw [hrow]
   refine call_sound hmix m_im_graphOk_c1 ?_
   refine s_reg ?_
   simp only [go_sem, List.cons_append, List.nil_append, List.map_cons, List.map_nil]
   refine s_reg ?_
   simp only [go_sem]
   refine ContainsFunc_c (ns := nx i) (p := fun x => !(decide (0 ≤ x) && decide (x ≤ (rows.length : Int) - 1))) (.mk' _ _ _ _) rfl (fun x K'' hx hK'' => ?_) ?_
   ·refine call_sound hmix m_im_graphOk_c1_c1 ?_
    refine s_reg ?_
    simp only [go_sem, List.cons_append, List.nil_append, List.map_cons, List.map_nil]
    refine s_reg ?_
    simp only [go_sem, how, hok, hlen]
    intro _
    refine ⟨inR64 (by omega) (by omega), ?_⟩
    refine within_c ?_
    simp only [go_sem, s_im_graphOk_c1_c1_i0]
    refine c_ret ?_
    simp only [go_sem, endQ, retT, r_im_graphOk_c1_c1, List.mem_singleton, forall_eq, RS.op]
    exact hK''
   ·simp only [go_sem, s_im_graphOk_c1_i0]
    refine c_ret ?_
    simp only [go_sem, endQ, retT, r_im_graphOk_c1, List.mem_singleton, forall_eq, RS.op]
    exact hK'
  ·simp only [go_sem, s_im_graphOk_i0, hc]
   refine c_ret ?_
   simp only [go_sem, endQ, retT, r_im_graphOk, List.mem_singleton, forall_eq, RS.op]
   have : fitsB rows.length nx = !((List.range rows.length).any fun i => (nx i).any fun x => !(decide (0 ≤ x) && decide (x ≤ (rows.length : Int) - 1))) := by
    simp only [fitsB, hn, decide_true, Bool.and_true, List.not_any_eq_all_not, Bool.not_not, Bool.decide_and]
   rw [← this]; exact hK
 ·have hn : rows.length = 0 := by have : ¬ 0 < rows.length := (by simpa using hc); omega
  simp only [go_sem, s_im_graphOk_i0, hc]
  refine c_ret ?_
  simp only [go_sem, endQ, retT, r_im_graphOk, List.mem_singleton, forall_eq, RS.op]
  have : fitsB rows.length nx = false := by simp [fitsB, hn]
  rw [this] at hK; exact hK
end Go.AE.Y

namespace Go.AE.Y
attribute [local instance] Classical.propDecidable
inductive Rch (g : Nat → List Nat) (A : Nat → Prop) : Nat → Nat → Prop
 | refl {x : Nat} : ¬ A x → Rch g A x x
 | step {x y z : Nat} : Rch g A x y → z ∈ g y → ¬ A z → Rch g A x z
variable {g : Nat → List Nat} {A B : Nat → Prop} {x y z : Nat}
theorem Rch.mono (h : Rch g A x y) (hAB : ∀ z, B z → A z) : Rch g B x y := by
 induction h with
 | refl h => exact .refl fun hb => h (hAB _ hb)
 | step h1 h2 h3 ih => exact ih.step h2 fun hb => h3 (hAB _ hb)
theorem Rch.fst (h : Rch g A x y) : ¬ A x := by
 induction h with
 | refl h => exact h
 | step _ _ _ ih => exact ih
theorem Rch.snd (h : Rch g A x y) : ¬ A y := by
 cases h with
 | refl h => exact h
 | step _ _ h => exact h
theorem Rch.trans (h : Rch g A x y) (k : Rch g A y z) : Rch g A x z := by
 induction k with
 | refl _ => exact h
 | step _ h2 h3 ih => exact ih.step h2 h3
theorem Rch.head (hx : ¬ A x) (hy : y ∈ g x) (h : Rch g A y z) : Rch g A x z := (Rch.step (.refl hx) hy h.fst).trans h
theorem Rch.lt {n : Nat} (hg : ∀ x, x < n → ∀ y ∈ g x, y < n) (h : Rch g A x y) (hx : x < n) : y < n := by
 induction h with
 | refl _ => exact hx
 | step _ h2 _ ih => exact hg _ ih _ h2
variable {xs : List Nat} {S S' S1 : List Bool} {o o' o1 : List Nat}
theorem Dfs.adds (h : Dfs g xs S o S' o') : (∀ x, x < S.length → ∀ y ∈ g x, y < S.length) → (∀ x ∈ xs, x < S.length) →
  ∃ t, o' = o ++ t ∧ (∀ x, S'.getD x false = true ↔ S.getD x false = true ∨ x ∈ t) ∧ (∀ x ∈ t, ∀ y ∈ g x, S'.getD y false = true) ∧
   (∀ x ∈ xs, S'.getD x false = true) ∧ (∀ y ∈ t, ∃ x ∈ xs, Rch g (fun z => S.getD z false = true) x y) := by
 induction h with
 | nil S o => exact fun _ _ => ⟨[], by simp, by simp, by simp, by simp, by simp⟩
 | @skip x xs S S' o o' h1 h2 ih =>
  intro hg hx
  obtain ⟨t, e, a1, a2, a3, a4⟩ := ih hg fun y hy => hx y (List.mem_cons_of_mem _ hy)
  refine ⟨t, e, a1, a2, fun y hy => ?_, fun y hy => ?_⟩
  ·rcases List.mem_cons.1 hy with rfl | hy
   ·exact h2.mono _ h1
   ·exact a3 y hy
  ·obtain ⟨z, hz, hr⟩ := a4 y hy
   exact ⟨z, List.mem_cons_of_mem _ hz, hr⟩
 | @go x xs S S1 S' o o1 o' h1 h2 h3 ih1 ih2 =>
  intro hg hxs
  have hx := hxs x List.mem_cons_self
  have hl := h2.len
  rw [List.length_set] at hl
  obtain ⟨t1, e1, a1, a2, a3, a4⟩ := ih1 (by simpa using hg) (by simpa using hg x hx)
  obtain ⟨t2, e2, b1, b2, b3, b4⟩ := ih2 (by rw [hl]; exact hg) (by rw [hl]; exact fun y hy => hxs y (List.mem_cons_of_mem _ hy))
  have hset : ∀ y, (S.set x true).getD y false = true ↔ y = x ∨ S.getD y false = true := by
   intro y
   rw [getD_set]
   by_cases hyx : y = x
   ·simp [hyx, hx]
   ·simp [hyx]
  have hmono : ∀ y, S.getD y false = true → S1.getD y false = true := fun y hy => (a1 y).2 (.inl ((hset y).2 (.inr hy)))
  have hxS1 : S1.getD x false = true := (a1 x).2 (.inl ((hset x).2 (.inl rfl)))
  refine ⟨t1 ++ [x] ++ t2, by rw [e2, e1]; simp, fun y => ?_, fun y hy z hz => ?_, fun y hy => ?_, fun y hy => ?_⟩
  ·rw [b1, a1, hset]
   simp only [List.mem_append, List.mem_singleton]
   constructor
   ·rintro (((h | h) | h) | h)
    ·exact .inr (.inl (.inr h))
    ·exact .inl h
    ·exact .inr (.inl (.inl h))
    ·exact .inr (.inr h)
   ·rintro (h | ((h | h) | h))
    ·exact .inl (.inl (.inr h))
    ·exact .inl (.inr h)
    ·exact .inl (.inl (.inl h))
    ·exact .inr h
  ·rcases List.mem_append.1 hy with hy | hy
   ·rcases List.mem_append.1 hy with hy | hy
    ·exact (b1 z).2 (.inl (a2 y hy z hz))
    ·simp only [List.mem_singleton] at hy; subst hy
     exact (b1 z).2 (.inl (a3 z hz))
   ·exact b2 y hy z hz
  ·rcases List.mem_cons.1 hy with rfl | hy
   ·exact (b1 y).2 (.inl hxS1)
   ·exact b3 y hy
  ·rcases List.mem_append.1 hy with hy | hy
   ·rcases List.mem_append.1 hy with hy | hy
    ·obtain ⟨z, hz, hr⟩ := a4 y hy
     exact ⟨x, List.mem_cons_self, .head (by rw [h1]; simp) hz (hr.mono fun w hw => (hset w).2 (.inr hw))⟩
    ·simp only [List.mem_singleton] at hy; subst hy
     exact ⟨y, List.mem_cons_self, .refl (by rw [h1]; simp)⟩
   ·obtain ⟨z, hz, hr⟩ := b4 y hy
    exact ⟨z, List.mem_cons_of_mem _ hz, hr.mono hmono⟩
theorem Dfs.seen (h : Dfs g xs S o S' o') (hg : ∀ x, x < S.length → ∀ y ∈ g x, y < S.length) (hxs : ∀ x ∈ xs, x < S.length) (y : Nat) :
  S'.getD y false = true ↔ S.getD y false = true ∨ ∃ x ∈ xs, Rch g (fun z => S.getD z false = true) x y := by
 obtain ⟨t, e, a1, a2, a3, a4⟩ := h.adds hg hxs
 constructor
 ·intro hy
  rcases (a1 y).1 hy with hy | hy
  ·exact .inl hy
  ·exact .inr (a4 y hy)
 ·rintro (hy | ⟨x, hx, hr⟩)
  ·exact h.mono y hy
  ·induction hr with
   | refl _ => exact a3 _ hx
   | step h1 h2 h3 ih =>
    rcases (a1 _).1 ih with h | h
    ·exact absurd h h1.snd
    ·exact a2 _ h _ h2
theorem asc_eq : ∀ {l k : List Nat}, l.Pairwise (· < ·) → k.Pairwise (· < ·) → (∀ x, x ∈ l ↔ x ∈ k) → l = k
 | [], [], _, _, _ => rfl
 | [], b :: k, _, _, h => by have := (h b).2 List.mem_cons_self; simp at this
 | a :: l, [], _, _, h => by have := (h a).1 List.mem_cons_self; simp at this
 | a :: l, b :: k, h1, h2, h => by
  rw [List.pairwise_cons] at h1 h2
  have hab : a = b := by
   rcases List.mem_cons.1 ((h a).1 List.mem_cons_self) with e | e
   ·exact e
   ·rcases List.mem_cons.1 ((h b).2 List.mem_cons_self) with e' | e'
    ·exact e'.symm
    ·have := h1.1 b e'; have := h2.1 a e; omega
  subst hab
  congr 1
  refine asc_eq h1.2 h2.2 fun x => ⟨fun hx => ?_, fun hx => ?_⟩
  ·rcases List.mem_cons.1 ((h x).1 (List.mem_cons_of_mem _ hx)) with e | e
   ·subst e; have := h1.1 x hx; omega
   ·exact e
  ·rcases List.mem_cons.1 ((h x).2 (List.mem_cons_of_mem _ hx)) with e | e
   ·subst e; have := h2.1 x hx; omega
   ·exact e
theorem asc_range {l : List Nat} {n : Nat} {p : Nat → Bool} (h1 : l.Pairwise (· < ·)) (h : ∀ x, x ∈ l ↔ x < n ∧ p x = true) : l = (List.range n).filter p :=
 asc_eq h1 (List.Pairwise.filter _ List.pairwise_lt_range) fun x => by rw [h]; simp [List.mem_filter]
noncomputable def rchB (g : Nat → List Nat) (a : Int) (x : Nat) : Bool := decide (Rch g (fun z => (z : Int) = a) 0 x)
noncomputable def domB (g : Nat → List Nat) (a b : Nat) : Bool := rchB g (-1) a && rchB g (-1) b && !rchB g a b
def predL (n : Nat) (g : Nat → List Nat) (h : Nat) : List Nat := (List.range n).filter fun i => decide (h ∈ g i)
noncomputable def headB (n : Nat) (g : Nat → List Nat) (h : Nat) : Bool := (predL n g h).any fun p => domB g h p
noncomputable def headL (n : Nat) (g : Nat → List Nat) : List Nat := (List.range n).filter (headB n g)
inductive Bdy (n : Nat) (g : Nat → List Nat) (h : Nat) : Nat → Prop
 | head : Bdy n g h h
 | back {p : Nat} : p ∈ predL n g h → domB g h p = true → Bdy n g h p
 | more {b p : Nat} : Bdy n g h b → b ≠ h → p ∈ predL n g b → rchB g (-1) p = true → Bdy n g h p
noncomputable def bodyL (n : Nat) (g : Nat → List Nat) (h : Nat) : List Nat := (List.range n).filter fun b => decide (Bdy n g h b)
variable {n h : Nat}
theorem predL_mem {p : Nat} : p ∈ predL n g h ↔ p < n ∧ h ∈ g p := by simp [predL]
theorem headL_mem : h ∈ headL n g ↔ h < n ∧ ∃ p ∈ predL n g h, domB g h p = true := by simp [headL, headB, List.any_eq_true]
theorem Bdy.lt {b : Nat} (hh : h < n) (hb : Bdy n g h b) : b < n := by
 cases hb with
 | head => exact hh
 | back h1 _ => exact (predL_mem.1 h1).1
 | more _ _ h1 _ => exact (predL_mem.1 h1).1
theorem bodyL_mem (hh : h < n) {b : Nat} : b ∈ bodyL n g h ↔ Bdy n g h b := by
 simp only [bodyL, List.mem_filter, List.mem_range, decide_eq_true_eq]
 exact ⟨fun h => h.2, fun h => ⟨h.lt hh, h⟩⟩
theorem bodyL_asc : (bodyL n g h).Pairwise (· < ·) := List.Pairwise.filter _ List.pairwise_lt_range
end Go.AE.Y

namespace Go.AE.Y
open Go.Proofs.Tryz
variable {H : Heap} {K : V → Heap → Prop}
theorem GRd.ows {c : C} {rows : List (List C)} {nx : Nat → List Int} (h : GRd H c rows nx) {i : Nat} (hi : i < rows.length) {a1 a2 a3 a4 a5 : C} (hr : rows.getD i [] = [a1, a2, a3, a4, a5]) :
  a1.isOw = false ∧ a2.isOw = false ∧ a3.isOw = false ∧ a4.isOw = false ∧ a5.isOw = false := by
 have := h.no _ (List.getElem_mem hi)
 have e : rows[i] = [a1, a2, a3, a4, a5] := by rw [← hr]; simp [List.getD_eq_getElem?_getD, hi]
 rw [e] at this
 simpa [Go.AE.noOw] using this
def predsIn (nx : Nat → List Int) (b : Int) (n : Nat) : List Int := if decide (0 ≤ b) && decide (b ≤ (n : Int) - 1) then predsOf nx b n else []
set_option maxHeartbeats 1000000 in
theorem PredsOf_c {p rg : Int} {bc : C} {rows : List (List C)} {nx : Nat → List Int} {b : Int} (hg : GRd H bc rows nx)
  (hK : ∀ fl H', Upd H H' [] → K (.c (.sl fl 1 (intsOf (predsIn nx b rows.length)))) H') : ACall prog fn_im_PredsOf [.ag [.int .i64 p, .int .i64 rg, bc], .c (.int .i64 b)] H K := by
 refine acall_un ?_
 refine call_sound hmix m_im_PredsOf ?_
 have how := hg.ow
 have hok := eq_true hg.s.ok
 have hlen := hg.s.len
 have hsz := hg.s.sz
 refine s_reg ?_
 simp only [go_sem, how]
 refine s_reg ?_
 simp only [go_sem, how]
 refine c_as ?_
 refine s_reg ?_
 simp only [go_sem, how, hok, hlen]
 intro hl
 simp only [LIM] at hl
 refine ⟨inR64 (by omega) (by omega), ?_⟩
 refine within_c ?_
 simp only [go_sem, s_im_PredsOf_i0]
 refine c_seq (c_cond rfl ?_ ?_)
 ·intro hc
  have hc' := not_t hc
  refine s_reg ?_
  simp only [go_sem]
  refine c_ret ?_
  simp only [go_sem, endQ, retT, r_im_PredsOf, List.mem_singleton, forall_eq, RS.op]
  have h := hK false _ (Kn.start0 H).fin
  simp only [predsIn, hc'] at h
  exact ⟨_, .c _ _ FrzR.nil.sl, h⟩
 ·intro hc
  have hc' := not_f hc
  refine c_skip ?_
  simp only [go_sem]
  refine c_as ?_
  refine s_reg ?_
  simp only [go_sem, how, hok, hlen]
  intro _
  refine c_seq (c_block (c_loop (fun m e1 H1 => ∃ (i : Nat) (c : C) (Lg : List (Nat × Obj)), m = rows.length - i ∧ i ≤ rows.length ∧ Gr Lg 1 (intsOf (predsOf nx b i)) c ∧ Kn H H1 [] ([] ++ Lg) ∧
   e1 = [(1, .c (.int .i64 b)), (5, .c c), (16, .c bc), (17, .c (.int .i64 rows.length)), (18, .c (.int .i64 i))]) rows.length ?_ ?_))
  ·exact ⟨0, _, [], by omega, by omega, .nil 1, Kn.start0 H, rfl⟩
  ·rintro m e1 H1 ⟨i, c, Lg, hm, hi, hgr, kn, rfl⟩
   have hg1 := hg.keep0 kn
   have hok1 := eq_true hg1.s.ok
   have hrw1 := hg1.s.rows
   refine s_reg ?_
   simp only [go_sem]
   refine c_seq (c_cond rfl ?_ ?_)
   ·intro hc
    have hlt : i < rows.length := by simpa using hc
    obtain ⟨a1, a2, a3, a4, fl, hrow⟩ := hg.x i hlt
    obtain ⟨o1, o2, o3, o4, _⟩ := hg.ows hlt hrow
    refine c_skip ?_
    simp only [go_sem]
    refine c_cut (fun e2 H2 => ∃ (c : C) (Lg : List (Nat × Obj)), Gr Lg 1 (intsOf (predsOf nx b (i + 1))) c ∧ Kn H H2 [] ([] ++ Lg) ∧
     lk 1 e2 = .c (.int .i64 b) ∧ lk 5 e2 = .c c ∧ lk 16 e2 = .c bc ∧ lk 17 e2 = .c (.int .i64 rows.length) ∧ lk 18 e2 = .c (.int .i64 i)) ?_ ?_
    ·intro Q hnr _ _
     refine c_block ?_
     refine s_reg ?_
     simp only [go_sem, how, hok1, hlen, hsz, hrw1, hlt, hrow, o1, o2, o3, o4]
     intro x hx H2 h2
     have kn := (kn.al hx h2).perm List.perm_append_comm
     have hx2 := kn.l 0 rfl
     simp only [go_sem, s_im_PredsOf_i2, hx2]
     intro H3 h3
     have kn := kn.stL 0 rfl h3
     have hx3 := kn.l 0 rfl
     refine s_reg ?_
     simp only [go_sem, hx3]
     refine Contains_c (.mk' _ _ _ _) rfl ?_
     refine c_cond rfl ?_ ?_
     ·intro hcon
      have hpl := predsOf_len nx b i
      refine c_reg ?_
      simp only [go_sem]
      refine kn.grow (B := [_]) (new := intsOf [(i : Int)]) hgr (.mk' _ _ _ _) (intsOf_noOw _) (by simp only [intsOf_len, LIM, List.length_cons, List.length_nil]; omega) fun y' H4 kn => ?_
      simp only [go_sem, s_im_PredsOf_i3]
      refine hnr _ _ ⟨_, _, ?_, (kn.perm List.perm_append_comm).drop, rfl, rfl, rfl, rfl, rfl⟩
      rw [predsOf_succ, hcon, if_pos rfl, intsOf_app]
      exact .mk _ _ _ (by simp)
     ·intro hcon
      refine c_skip ?_
      simp only [go_sem]
      refine hnr _ _ ⟨c, Lg, ?_, ?_, rfl, rfl, rfl, rfl, rfl⟩
      ·rw [predsOf_succ, hcon]
       simpa using hgr
      ·have kn : Kn H H3 [] ([(x, .st [a1, a2, a3, a4, .sl fl 1 (intsOf (nx i))])] ++ ([] ++ Lg)) := kn
       exact (kn.perm List.perm_append_comm).drop
    ·rintro e2 H2 ⟨c2, Lg2, hgr, kn, l1, l5, l16, l17, l18⟩
     refine c_reg ?_
     simp only [go_sem, X.next, l1, l5, l16, l17, l18]
     exact ⟨inR64 (by omega) (by omega), rows.length - (i + 1), by omega, i + 1, c2, Lg2, rfl, by omega, hgr, kn, rfl⟩
   ·intro hc
    have hge : i = rows.length := by have : ¬ i < rows.length := (by simpa using hc); omega
    subst hge
    refine c_exit ?_
    simp only [go_sem, X.next]
    refine s_reg ?_
    simp only [go_sem, hgr.isOw]
    refine c_ret ?_
    simp only [go_sem, endQ, retT, r_im_PredsOf, List.mem_singleton, forall_eq, RS.op, hgr.isOw]
    refine ⟨_, .c _ _ (hgr.frz kn (intsOf_noOw _)), ?_⟩
    have := hK false _ kn.fin
    simp only [predsIn, hc'] at this
    exact this
end Go.AE.Y

namespace Go.AE.Y
attribute [local instance] Classical.propDecidable
structure Wk (g : Nat → List Nat) (a : Int) (n : Nat) (S : List Bool) (T : List Nat) : Prop where
 len : S.length = n
 s : ∀ x, S.getD x false = true → Rch g (fun z => (z : Int) = a) 0 x
 t : ∀ x ∈ T, (x : Int) ≠ a → Rch g (fun z => (z : Int) = a) 0 x
 c : ∀ x, S.getD x false = true → ∀ y ∈ g x, S.getD y false = true ∨ (y : Int) = a ∨ y ∈ T
 z : S.getD 0 false = true ∨ ((0 : Nat) : Int) = a ∨ 0 ∈ T
 r : ∀ x ∈ T, x < n
variable {g : Nat → List Nat} {a : Int} {n : Nat} {S : List Bool} {T : List Nat} {b : Nat}
theorem replicate_getD (n x : Nat) : (List.replicate n false).getD x false = false := by
 simp only [List.getD_eq_getElem?_getD, List.getElem?_replicate]
 split <;> rfl
theorem Wk.init (hn : 0 < n) : Wk g a n (List.replicate n false) [0] := by
 refine ⟨by simp, fun x h => ?_, fun x hx ha => ?_, fun x h => ?_, .inr (.inr (by simp)), fun x hx => ?_⟩
 ·rw [replicate_getD] at h; simp at h
 ·simp at hx; subst hx; exact .refl (by simpa using ha)
 ·rw [replicate_getD] at h; simp at h
 ·simp at hx; omega
theorem Wk.skip (h : Wk g a n S (T ++ [b])) (hb : (b : Int) = a ∨ S.getD b false = true) : Wk g a n S T := by
 refine ⟨h.len, h.s, fun x hx => h.t x (List.mem_append_left _ hx), fun x hx y hy => ?_, ?_, fun x hx => h.r x (List.mem_append_left _ hx)⟩
 ·rcases h.c x hx y hy with h1 | h1 | h1
  ·exact .inl h1
  ·exact .inr (.inl h1)
  ·rcases List.mem_append.1 h1 with h1 | h1
   ·exact .inr (.inr h1)
   ·simp at h1; subst h1
    rcases hb with hb | hb
    ·exact .inr (.inl hb)
    ·exact .inl hb
 ·rcases h.z with h1 | h1 | h1
  ·exact .inl h1
  ·exact .inr (.inl h1)
  ·rcases List.mem_append.1 h1 with h1 | h1
   ·exact .inr (.inr h1)
   ·simp at h1; subst h1
    rcases hb with hb | hb
    ·exact .inr (.inl hb)
    ·exact .inl hb
theorem Wk.go (h : Wk g a n S (T ++ [b])) (hba : (b : Int) ≠ a) (hg : ∀ y ∈ g b, y < n) : Wk g a n (S.set b true) (T ++ g b) := by
 have hb := h.t b (by simp) hba
 have hbn := h.r b (by simp)
 have hset : ∀ y, (S.set b true).getD y false = true ↔ y = b ∨ S.getD y false = true := by
  intro y
  rw [getD_set]
  by_cases hyx : y = b
  ·simp [hyx, h.len, hbn]
  ·simp [hyx]
 refine ⟨by simp [h.len], fun x hx => ?_, fun x hx ha => ?_, fun x hx y hy => ?_, ?_, fun x hx => ?_⟩
 ·rcases (hset x).1 hx with rfl | hx
  ·exact hb
  ·exact h.s x hx
 ·rcases List.mem_append.1 hx with hx | hx
  ·exact h.t x (List.mem_append_left _ hx) ha
  ·exact hb.step hx ha
 ·rcases (hset x).1 hx with rfl | hx
  ·exact .inr (.inr (List.mem_append_right _ hy))
  ·rcases h.c x hx y hy with h1 | h1 | h1
   ·exact .inl ((hset y).2 (.inr h1))
   ·exact .inr (.inl h1)
   ·rcases List.mem_append.1 h1 with h1 | h1
    ·exact .inr (.inr (List.mem_append_left _ h1))
    ·simp at h1; subst h1; exact .inl ((hset y).2 (.inl rfl))
 ·rcases h.z with h1 | h1 | h1
  ·exact .inl ((hset 0).2 (.inr h1))
  ·exact .inr (.inl h1)
  ·rcases List.mem_append.1 h1 with h1 | h1
   ·exact .inr (.inr (List.mem_append_left _ h1))
   ·simp at h1; exact .inl ((hset 0).2 (.inl h1))
 ·rcases List.mem_append.1 hx with hx | hx
  ·exact h.r x (List.mem_append_left _ hx)
  ·exact hg x hx
theorem Wk.fin (h : Wk g a n S []) : S = (List.range n).map (rchB g a) := by
 have hh : ∀ x, S.getD x false = true ↔ Rch g (fun z => (z : Int) = a) 0 x := by
  refine fun x => ⟨h.s x, fun hr => ?_⟩
  induction hr with
  | refl h0 =>
   rcases h.z with h1 | h1 | h1
   ·exact h1
   ·exact absurd h1 h0
   ·simp at h1
  | step h1 h2 h3 ih =>
   rcases h.c _ ih _ h2 with h4 | h4 | h4
   ·exact h4
   ·exact absurd h4 h3
   ·simp at h4
 refine List.ext_getElem? fun x => ?_
 by_cases hx : x < n
 ·have hxs : x < S.length := by rw [h.len]; exact hx
  have := hh x
  simp only [List.getD_eq_getElem?_getD, List.getElem?_eq_getElem hxs, Option.getD_some] at this
  rw [List.getElem?_eq_getElem hxs]
  simp only [List.getElem?_map, List.getElem?_range hx, Option.map_some, rchB]
  congr 1
  by_cases hr : Rch g (fun z => (z : Int) = a) 0 x
  ·rw [this.2 hr, decide_eq_true hr]
  ·rw [decide_eq_false hr]
   cases hv : S[x] with
   | false => rfl
   | true => exact absurd (this.1 hv) hr
 ·rw [List.getElem?_eq_none (by rw [h.len]; omega), List.getElem?_eq_none (by simp; omega)]
end Go.AE.Y

namespace Go.AE.Y
open Go.Proofs.Tryz
variable {H H0 : Heap} {K : V → Heap → Prop}
theorem natsOf_nxN {n : Nat} {nx : Nat → List Int} (h : fitsB n nx = true) {b : Nat} (hb : b < n) : natsOf (nxN nx b) = intsOf (nx b) := by
 simp only [natsOf, nxN, List.map_map]
 congr 1
 conv => rhs; rw [← List.map_id (nx b)]
 refine List.map_congr_left fun x hx => ?_
 have := fitsB_mem h hb hx
 simp only [Function.comp_def, id]
 exact Int.toNat_of_nonneg this.1
theorem boolsOf_replicate (n : Nat) : List.replicate n [C.bool false] = boolsOf (List.replicate n false) := by simp [boolsOf]
theorem natsOf_getD (l : List Nat) (i : Nat) (h : i < l.length) : (natsOf l).getD i [] = [.int .i64 ((l.getD i 0 : Nat) : Int)] := by
 simp [natsOf, intsOf, List.getD_eq_getElem?_getD, h]
theorem natsOf_app (a b : List Nat) : natsOf (a ++ b) = natsOf a ++ natsOf b := by simp [natsOf, intsOf]
end Go.AE.Y
namespace Go.AE
open Go.AE.Y
open Go.Proofs.Tryz
variable {H H0 : Heap} {K : V → Heap → Prop}
theorem Kn.growW {E B : List (Nat × Obj)} {K : V → Heap → Prop} {sz z k : Nat} {R rows new : List (List C)} {b : C} (kn : Kn H0 H E (B ++ [(z, .vec sz R)])) (hR : R.take k = rows) (hk : k = rows.length) (hb : Slc H sz new b)
  (h1 : ∀ r ∈ new, noOw r = true) (h2 : rows.length + new.length ≤ LIM)
  (h : ∀ y' H', Kn H0 H' E (B ++ [(y', .vec sz (rows ++ new))]) → K (.c (.vsl y' sz 0 (rows.length + new.length))) H') : appQ H sz (.vsl z sz 0 k) b K := by
 have hle : rows.length ≤ R.length := by rw [← hR, List.length_take]; omega
 subst hk
 refine ⟨hb.ok, hb.sz, ?_⟩
 have hy : H z = .vec sz R := (kn.get (z, .vec sz R) (by simp)).1
 simp only [hy, hb.rows, hb.len, List.drop_zero, hR]
 refine ⟨trivial, trivial, by omega, h1, h2, fun l' hl' H' hH' => ?_⟩
 refine h l' H' ?_
 have := kn.ap B.length (y := z) (o := .vec sz R) (by simp) hl' hH'
 simpa using this
end Go.AE
namespace Go.AE.Y
open Go.Proofs.Tryz
variable {H H0 : Heap} {K : V → Heap → Prop}
set_option maxHeartbeats 2000000 in
theorem reachedWithout_c {p rg : Int} {bc : C} {rows : List (List C)} {nx : Nat → List Int} {a : Int} (hg : GRd H bc rows nx) (hfit : fitsB rows.length nx = true) (hn : rows.length ≤ 10000) (hM : ∀ i, i < rows.length → (nx i).length ≤ 1000)
  (hK : ∀ H', Upd H H' [] → K (.c (.sl false 1 (boolsOf ((List.range rows.length).map (rchB (nxN nx) a))))) H') :
  ACall prog fn_im_reachedWithout [.ag [.int .i64 p, .int .i64 rg, bc], .c (.int .i64 a)] H K := by
 refine acall_un ?_
 refine call_sound hmix m_im_reachedWithout ?_
 have how := hg.ow
 have hok := eq_true hg.s.ok
 have hlen := hg.s.len
 have hsz := hg.s.sz
 have hn0 := fitsB_pos hfit
 refine s_reg ?_
 simp only [go_sem, how]
 refine s_reg ?_
 simp only [go_sem, how, hok, hlen, boolsOf_replicate]
 intro hl
 refine ⟨by simp only [LIM]; omega, fun y hy H1 h1 => ?_⟩
 have kn := (Kn.start0 H).al hy h1
 simp only [go_sem, s_im_reachedWithout_i0]
 refine s_reg ?_
 simp only [go_sem]
 intro z hz H2 h2
 have kn := kn.al hz h2
 have inv0 : Kn H H2 [] ([(y, .vec 1 (boolsOf (List.replicate rows.length false)))] ++ [(z, .vec 1 (natsOf [0]))]) := kn
 refine c_seq (c_block (c_loop (fun m e1 H1 => ∃ (S : List Bool) (T : List Nat) (z : Nat) (R : List (List C)), m = (rows.length - cnt S) * 1001 + T.length ∧ Wk (nxN nx) a rows.length S T ∧ T.length ≤ 1 + 1000 * cnt S ∧ R.take T.length = natsOf T ∧
   Kn H H1 [] ([(y, .vec 1 (boolsOf S))] ++ [(z, .vec 1 R)]) ∧ lk 1 e1 = .c (.int .i64 a) ∧ lk 2 e1 = .c (.pp [.int .i64 p, .int .i64 rg, bc]) ∧ lk 5 e1 = .c (.vsl y 1 0 rows.length) ∧ lk 6 e1 = .c (.vsl z 1 0 T.length)) ((rows.length - cnt (List.replicate rows.length false)) * 1001 + 1) ?_ ?_))
 ·exact ⟨List.replicate rows.length false, [0], z, natsOf [0], rfl, .init hn0, by simp, by simp [natsOf, intsOf], inv0, by simp [lk], by simp [lk], by simp [lk], by simp [lk]⟩
 ·rintro m e1 H1 ⟨S, T, z, R, hm, hw, hT, hR, kn, l1, l2, l5, l6⟩
  have hz := kn.l 1 rfl
  have hy := kn.l 0 rfl
  have hSl := hw.len
  have hcl := cnt_le S
  have hRl : T.length ≤ R.length := by
   have := congrArg List.length hR
   rw [List.length_take, natsOf_len] at this
   omega
  refine c_as ?_
  refine s_reg ?_
  simp only [go_sem, l1, l2, l5, l6, hz, hRl, Nat.zero_add]
  intro hlT
  refine c_seq (c_cond rfl ?_ ?_)
  ·intro hc
   have hT0 : 0 < T.length := by simpa using hc
   obtain ⟨T', b, rfl⟩ : ∃ T' b, T = T' ++ [b] := ⟨T.dropLast, T.getLast (by intro h; subst h; simp at hT0), (List.dropLast_concat_getLast _).symm⟩
   have hTl : (T' ++ [b]).length = T'.length + 1 := by simp
   rw [hTl] at hm hT hR hRl hlT
   have hbn := hw.r b (by simp)
   have hbS : b < S.length := by omega
   have hRb : R.getD T'.length [] = [.int .i64 (b : Int)] := by
    have h1 : (natsOf (T' ++ [b])).getD T'.length [] = [.int .i64 (b : Int)] := by
     rw [natsOf_getD _ _ (by simp)]; simp [List.getD_eq_getElem?_getD]
    rw [← h1, ← hR]
    simp only [List.getD_eq_getElem?_getD, List.getElem?_take]
    rw [if_pos (by omega)]
   have hR' : R.take T'.length = natsOf T' := by
    have := congrArg (List.take T'.length) hR
    rw [List.take_take, Nat.min_eq_left (by omega), natsOf_app] at this
    rw [this, List.take_append_of_le_length (by rw [natsOf_len]; omega), List.take_of_length_le (by rw [natsOf_len]; omega)]
   have hR2 : (R.take (T'.length + 1)).getD T'.length [] = [.int .i64 (b : Int)] := by
    rw [← hRb]
    simp only [List.getD_eq_getElem?_getD, List.getElem?_take]
    rw [if_pos (by omega)]
   have hR3 : T'.length < (R.take (T'.length + 1)).length := by rw [List.length_take]; omega
   have e1 : (((T'.length + 1 : Nat) : Int) - 1) = (T'.length : Int) := by omega
   simp only [hTl] at *
   refine c_skip ?_
   simp only [go_sem]
   refine c_block ?_
   refine s_reg ?_
   have hlt1 : T'.length < T'.length + 1 := by omega
   simp only [go_sem, l1, l2, l5, l6, hz, hRl, hRb, hR2, hR3, e1, hlt1, Nat.zero_add]
   intro _
   refine ⟨inR64 (by omega) (by omega), ?_⟩
   refine s_reg ?_
   simp only [go_sem, l1, l2, l5, l6, hz, hRl, e1, Nat.zero_add, Nat.sub_zero]
   intro _
   refine ⟨inR64 (by omega) (by omega), by omega, ?_⟩
   refine c_as ?_
   refine s_reg ?_
   have htk : List.take rows.length (boolsOf S) = boolsOf S := List.take_of_length_le (by rw [boolsOf_len]; omega)
   simp only [go_sem, hy, hbS, hbn, hSl, htk, boolsOf_len, boolsOf_getD _ _ hbS, Nat.zero_add, Nat.le_refl]
   refine c_seq (c_cond rfl ?_ ?_)
   ·intro hc2
    have hb : (b : Int) = a ∨ S.getD b false = true := by
     by_cases h : (b : Int) = a
     ·exact .inl h
     ·simp only [h, decide_false, cond_false] at hc2; exact .inr hc2
    refine c_exit ?_
    simp only [go_sem, X.next]
    exact ⟨(rows.length - cnt S) * 1001 + T'.length, by omega, S, T', z, R, rfl, hw.skip hb, by omega, hR', kn, rfl⟩
   ·intro hc2
    have hb : (b : Int) ≠ a ∧ S.getD b false = false := by
     by_cases h : (b : Int) = a
     ·simp only [h, decide_true, cond_true] at hc2; simp at hc2
     ·simp only [h, decide_false, cond_false] at hc2; exact ⟨h, hc2⟩
    refine c_skip ?_
    simp only [go_sem]
    refine s_reg ?_
    simp only [go_sem, hy, hbS, hbn, hSl, htk, boolsOf_len, boolsOf_getD _ _ hbS, boolsOf_set, Nat.zero_add, Nat.le_refl]
    intro H3 h3
    have kn := kn.stL 0 rfl h3
    have hcS := cnt_set hbS hb.2
    have hcl2 := cnt_le (S.set b true)
    rw [List.length_set] at hcl2
    obtain ⟨a1, a2, a3, a4, fl, hrow⟩ := hg.x b hbn
    have hg2 := hg.keep0 kn
    have hok2 := eq_true hg2.s.ok
    have hrw2 := hg2.s.rows
    have hMb := hM b hbn
    have hnl : (nxN nx b).length = (nx b).length := by simp [nxN]
    refine c_reg ?_
    generalize hzz : C.vsl z 1 0 T'.length = tc
    have htw : tc.isOw = false := by rw [← hzz]; rfl
    simp only [go_sem, how, htw, hok2, hlen, hsz, hrw2, hbn, hrow]
    rw [← hzz]
    refine kn.growW (B := [(y, .vec 1 (boolsOf (S.set b true)))]) (new := intsOf (nx b)) hR' (by rw [natsOf_len]) (.mk' _ _ _ _) (intsOf_noOw _) (by simp only [natsOf_len, intsOf_len, LIM]; omega) fun z2 H4 kn => ?_
    simp only [go_sem, s_im_reachedWithout_i1, X.next]
    refine ⟨(rows.length - cnt (S.set b true)) * 1001 + (T' ++ nxN nx b).length, ?_, S.set b true, T' ++ nxN nx b, z2, natsOf (T' ++ nxN nx b), rfl, hw.go hb.1 (fun x hx => nxN_lt hfit hbn hx), ?_, List.take_of_length_le (by rw [natsOf_len]; exact Nat.le_refl _), ?_, ?_⟩
    ·rw [List.length_append, hnl]; omega
    ·rw [List.length_append, hnl]; omega
    ·rw [natsOf_app, natsOf_nxN hfit hbn]; exact kn
    ·simp only [List.length_append, hnl, natsOf_len, intsOf_len]
  ·intro hc
   have hT0 : T = [] := by
    cases T with
    | nil => rfl
    | cons x r => simp at hc
   subst hT0
   refine c_exit ?_
   simp only [go_sem, X.next]
   refine s_reg ?_
   simp only [go_sem, l5]
   refine c_ret ?_
   simp only [go_sem, endQ, retT, r_im_reachedWithout, List.mem_singleton, forall_eq, RS.op]
   have hfin := hw.fin
   refine ⟨_, .c _ _ ((FrzR.same (boolsOf_noOw S)).vsl (kn.un 0 rfl) hy ?_), ?_⟩
   ·rw [boolsOf_len, hSl]
   ·have := hK _ kn.fin
    rw [← hfin] at this
    exact this
end Go.AE.Y

namespace Go.AE
variable {H0 F H : Heap} {E E0 E' L L1 L2 M : List (Nat × Obj)}
theorem Kn.startE (h : ∀ p ∈ E, H p.1 = p.2 ∧ p.2 ≠ .none) (hd : (E.map Prod.fst).Nodup) : Kn H H E [] :=
 ⟨by simpa using h, fun p hp => by rw [(h p hp).1]; exact (h p hp).2, by simp, hd, by simp, fun _ _ _ => rfl⟩
theorem Kn.mid (k : Kn H0 F E0 (L1 ++ L2)) : Kn F F L1 [] :=
 .startE (fun p hp => k.get p (List.mem_append_right _ (List.mem_append_left _ hp))) (by
  have := k.dL; rw [List.map_append] at this; exact (List.nodup_append.1 this).1)
theorem Kn.comp (k1 : Kn H0 F E0 (L1 ++ L2)) (k2 : Kn F H E' M) (hE : E'.map Prod.fst = L1.map Prod.fst) : Kn H0 H E0 ((E' ++ L2) ++ M) := by
 have hd := k1.dL
 rw [List.map_append] at hd
 obtain ⟨d1, d2, d3⟩ := List.nodup_append.1 hd
 have hE0 : ∀ p ∈ E0, F p.1 = p.2 ∧ p.2 ≠ .none := fun p hp => k1.get p (List.mem_append_left _ hp)
 have hL2 : ∀ p ∈ L2, F p.1 = p.2 ∧ p.2 ≠ .none := fun p hp => k1.get p (List.mem_append_right _ (List.mem_append_right _ hp))
 have inL1 : ∀ p ∈ E', ∃ q ∈ L1, q.1 = p.1 := fun p hp => by
  have := mem_fst hp; rw [hE] at this
  obtain ⟨q, h1, h2⟩ := List.mem_map.1 this; exact ⟨q, h1, h2⟩
 have keep : ∀ m, F m ≠ .none → m ∉ L1.map Prod.fst → H m = F m := fun m h1 h2 => k2.chg m h1 (by rw [hE]; exact h2)
 have hE0L : ∀ p ∈ E0, ∀ q ∈ L1, p.1 ≠ q.1 := fun p hp q hq hh => k1.ext p hp (hh ▸ k1.loc q (List.mem_append_left _ hq))
 refine ⟨fun p hp => ?_, k1.ext, fun p hp => ?_, k1.dE, ?_, fun m hm hn => ?_⟩
 ·rcases List.mem_append.1 hp with hp | hp
  ·obtain ⟨h1, h2⟩ := hE0 p hp
   refine ⟨?_, h2⟩
   rw [keep p.1 (by rw [h1]; exact h2) (fun hh => ?_), h1]
   obtain ⟨q, hq, hqq⟩ := List.mem_map.1 hh
   exact hE0L p hp q hq hqq.symm
  ·rcases List.mem_append.1 hp with hp | hp
   ·rcases List.mem_append.1 hp with hp | hp
    ·exact k2.get p (List.mem_append_left _ hp)
    ·obtain ⟨h1, h2⟩ := hL2 p hp
     refine ⟨?_, h2⟩
     rw [keep p.1 (by rw [h1]; exact h2) (fun hh => ?_), h1]
     exact d3 _ hh _ (mem_fst hp) rfl
   ·exact k2.get p (List.mem_append_right _ hp)
 ·rcases List.mem_append.1 hp with hp | hp
  ·rcases List.mem_append.1 hp with hp | hp
   ·obtain ⟨q, hq, hh⟩ := inL1 p hp
    rw [← hh]; exact k1.loc q (List.mem_append_left _ hq)
   ·exact k1.loc p (List.mem_append_right _ hp)
  ·have h1 := k2.loc p hp
   cases h0 : H0 p.1 with
   | none => rfl
   | _ =>
    by_cases hx : p.1 ∈ E0.map Prod.fst
    ·obtain ⟨q, hq, hh⟩ := List.mem_map.1 hx
     obtain ⟨a1, a2⟩ := hE0 q hq
     rw [hh, h1] at a1; exact absurd a1.symm a2
    ·have := k1.chg p.1 (by rw [h0]; simp) hx
     rw [h1, h0] at this; simp at this
 ·rw [List.map_append, List.map_append]
  refine List.nodup_append.2 ⟨List.nodup_append.2 ⟨k2.dE, d2, fun a ha b hb => ?_⟩, k2.dL, fun a ha b hb hab => ?_⟩
  ·rw [hE] at ha; exact d3 a ha b hb
  ·obtain ⟨q, hq, rfl⟩ := List.mem_map.1 hb
   have hf := k2.loc q hq
   rcases List.mem_append.1 ha with ha | ha
   ·obtain ⟨r, hr, rfl⟩ := List.mem_map.1 ha
    exact k2.ext r hr (hab ▸ hf)
   ·obtain ⟨r, hr, rfl⟩ := List.mem_map.1 ha
    obtain ⟨a1, a2⟩ := hL2 r hr
    rw [hab, hf] at a1; exact a2 a1.symm
 ·rw [keep m (by rw [k1.chg m hm hn]; exact hm) (fun hh => ?_), k1.chg m hm hn]
  obtain ⟨q, hq, rfl⟩ := List.mem_map.1 hh
  exact hm (k1.loc q (List.mem_append_left _ hq))
theorem Kn.upd (k : Kn H0 H E L) : Upd H0 H E := ⟨fun p hp => (k.get p (List.mem_append_left _ hp)).1, fun m hm hn => k.chg m hm hn⟩
theorem Y.FrzL.ptr {S : Nat → Bool} {l : Nat} {cells cells' : List C} (hS : S l = true) (hH : H l = .st cells) (h : FrzL H S cells cells') : FrzC H S (.ptr l 0) (.pp cells') := by
 obtain ⟨h1, h2⟩ := h.spec
 exact .ptr l 0 cells cells cells' hS hH rfl h1 h2
theorem Kn.growR {B Lg : List (Nat × Obj)} {K : V → Heap → Prop} {sz : Nat} {rows new : List (List C)} {b c : C} (kn : Kn H0 H E (B ++ Lg)) (hc : Gr Lg sz rows c) (hb : Slc H sz new b)
  (h1 : ∀ r ∈ new, noOw r = true) (h2 : rows.length + new.length ≤ LIM)
  (h : ∀ t Lg' H', Gr Lg' sz (rows ++ new) t → t.isOw = false → Kn H0 H' E (B ++ Lg') → K (.c t) H') : appQ H sz c b K :=
 kn.grow hc hb h1 h2 fun y' H' k => h _ _ H' (.mk y' sz _ (by simp)) rfl k
end Go.AE

namespace Go.AE.Y
open Go.Proofs.Tryz
variable {H H0 : Heap} {K : V → Heap → Prop}
def visCaps (x3 x4 x5 : Nat) (p rg : Int) (bc : C) : List C := [.ptr x4 0, .pp [.int .i64 p, .int .i64 rg, bc], .ptr x5 0, .ptr x3 0]
def visE (x3 x4 x5 y n : Nat) (p rg : Int) (bc : C) (S : List Bool) (oc : C) : List (Nat × Obj) :=
 [(y, .vec 1 (boolsOf S)), (x3, .st [oc]), (x4, .st [.vsl y 1 0 n]), (x5, .st [.fn fn_im_visits_c1 (visCaps x3 x4 x5 p rg bc)])]
set_option maxHeartbeats 2000000 in
theorem visit_c {F : Heap} {p rg : Int} {bc : C} {rows : List (List C)} {nx : Nat → List Int} {y x3 x4 x5 : Nat} (hfit : fitsB rows.length nx = true) (hn : rows.length ≤ 1000000) (hg : GRd F bc rows nx)
  (hyb : ∀ l a b d, bc = .vsl l a b d → l ≠ y ∧ l ≠ x3 ∧ l ≠ x4 ∧ l ≠ x5) :
  ∀ (u b : Nat) (S : List Bool) (o : List Nat) (oc : C) (Lg : List (Nat × Obj)) (H : Heap) (K : V → Heap → Prop), S.length = rows.length → rows.length - cnt S ≤ u → b < rows.length → S.getD b false = false →
   Kn F H (visE x3 x4 x5 y rows.length p rg bc S oc) ([] ++ Lg) → Gr Lg 1 (natsOf o) oc → o.length ≤ cnt S →
   (∀ (S' : List Bool) (o' : List Nat) (oc' : C) (Lg' : List (Nat × Obj)) (H' : Heap), Dfs (nxN nx) [b] S o S' o' → Kn F H' (visE x3 x4 x5 y rows.length p rg bc S' oc') ([] ++ Lg') → Gr Lg' 1 (natsOf o') oc' → K (.tup []) H') →
   ACall prog fn_im_visits_c1 ([.c (.int .i64 b)] ++ (visCaps x3 x4 x5 p rg bc).map .c) H K := by
 intro u
 induction u with
 | zero =>
  intro b S o oc Lg H K hS hu hb hsb
  have h1 := cnt_set (S := S) (x := b) (by omega) hsb
  have h2 := cnt_le (S.set b true)
  rw [List.length_set] at h2
  omega
 | succ u ih =>
  intro b S o oc Lg H K hS hu hb hsb kn hgr hol hK
  have how := hg.ow
  have hbS : b < S.length := by omega
  obtain ⟨a1, a2, a3, a4, fl, hrow⟩ := hg.x b hb
  have hsz := hg.s.sz
  have hlen := hg.s.len
  have hocw := hgr.isOw
  refine call_sound hmix m_im_visits_c1 ?_
  have hy := kn.e 0 rfl
  have hx4 := kn.e 2 rfl
  have htk : List.take rows.length (boolsOf S) = boolsOf S := List.take_of_length_le (by rw [boolsOf_len]; omega)
  refine s_reg ?_
  simp only [go_sem, visCaps, hx4, hy, hb, hbS, htk, boolsOf_len, hS, boolsOf_getD _ _ hbS, boolsOf_set, List.drop_zero, Nat.zero_add, Nat.le_refl]
  intro H1 h1
  have kn : Kn F H1 (visE x3 x4 x5 y rows.length p rg bc (S.set b true) oc) ([] ++ Lg) := kn.stE 0 rfl h1
  have hcS := cnt_set hbS hsb
  have hnxl : (nxN nx b).length = (nx b).length := by simp [nxN]
  have hbc : ∀ (S : List Bool) (oc : C) (l a b d), bc = .vsl l a b d → l ∉ (visE x3 x4 x5 y rows.length p rg bc S oc).map Prod.fst := by
   intro S oc l a b d hh
   obtain ⟨q1, q2, q3, q4⟩ := hyb l a b d hh
   simp [visE, q1, q2, q3, q4]
  have hg1 := hg.keep kn (hbc _ _)
  have hok1 := eq_true hg1.s.ok
  have hrw1 := hg1.s.rows
  refine c_as ?_
  refine s_reg ?_
  simp only [go_sem, how, hok1, hlen, hsz, hrw1, hb, hrow, intsOf_len]
  intro hl0
  simp only [LIM] at hl0
  refine c_seq (c_block (c_loop (fun m e1 H1 => ∃ (i : Nat) (S1 : List Bool) (o1 : List Nat) (oc1 : C) (Lg1 : List (Nat × Obj)), m = (nx b).length - i ∧ i ≤ (nx b).length ∧ Dfs (nxN nx) ((nxN nx b).take i) (S.set b true) o S1 o1 ∧
   Kn F H1 (visE x3 x4 x5 y rows.length p rg bc S1 oc1) ([] ++ Lg1) ∧ Gr Lg1 1 (natsOf o1) oc1 ∧
   e1 = [(0, .c (.int .i64 b)), (1, .c (.ptr x4 0)), (3, .c (.ptr x5 0)), (4, .c (.ptr x3 0)), (16, .c (.sl fl 1 (intsOf (nx b)))), (17, .c (.int .i64 (nx b).length)), (18, .c (.int .i64 i))]) (nx b).length ?_ ?_))
  ·exact ⟨0, _, o, oc, Lg, by omega, by omega, .nil _ _, kn, hgr, rfl⟩
  ·rintro m e1 H2 ⟨i, S1, o1, oc1, Lg1, hm, hi, hd, kn, hgr, rfl⟩
   have hgd : ∀ x, x < (S.set b true).length → ∀ z ∈ nxN nx x, z < (S.set b true).length := by
    rw [List.length_set, hS]
    exact fun x hx z hz => nxN_lt hfit hx hz
   have hd1 := hd.len
   rw [List.length_set, hS] at hd1
   have hd2 := hd.count hgd (fun x hx => hgd b (by rw [List.length_set]; exact hbS) x (List.mem_of_mem_take hx))
   have hd3 := hd.olen
   have hd4 := cnt_le S1
   have hy := kn.e 0 rfl
   have hx3 := kn.e 1 rfl
   have hx4 := kn.e 2 rfl
   have hx5 := kn.e 3 rfl
   refine s_reg ?_
   simp only [go_sem]
   refine c_seq (c_cond rfl ?_ ?_)
   ·intro hc
    have hlt : i < (nx b).length := by simpa using hc
    obtain ⟨w, hw⟩ : ∃ w : Nat, (nx b).getD i 0 = w := by
     have h1 := fitsB_mem hfit hb (List.getElem_mem hlt)
     refine ⟨((nx b)[i]).toNat, ?_⟩
     simp only [List.getD_eq_getElem?_getD, List.getElem?_eq_getElem hlt, Option.getD_some]
     omega
    have hwn : (nxN nx b).take (i + 1) = (nxN nx b).take i ++ [w] := by
     rw [List.take_succ_eq_append_getElem (by rw [hnxl]; exact hlt)]
     congr 1
     simp only [nxN, List.getElem_map]
     simp only [List.getD_eq_getElem?_getD, List.getElem?_eq_getElem hlt, Option.getD_some] at hw
     rw [hw]; simp
    have hwl : w < rows.length := nxN_lt hfit hb (x := w) (by
     have : w ∈ (nxN nx b).take (i + 1) := by rw [hwn]; simp
     exact List.mem_of_mem_take this)
    have hwS : w < S1.length := by omega
    refine c_skip ?_
    simp only [go_sem]
    refine c_cut (fun e2 H2 => ∃ (S2 : List Bool) (o2 : List Nat) (oc2 : C) (Lg2 : List (Nat × Obj)), Dfs (nxN nx) ((nxN nx b).take (i + 1)) (S.set b true) o S2 o2 ∧
     Kn F H2 (visE x3 x4 x5 y rows.length p rg bc S2 oc2) ([] ++ Lg2) ∧ Gr Lg2 1 (natsOf o2) oc2 ∧
     lk 0 e2 = .c (.int .i64 b) ∧ lk 1 e2 = .c (.ptr x4 0) ∧ lk 3 e2 = .c (.ptr x5 0) ∧ lk 4 e2 = .c (.ptr x3 0) ∧ lk 16 e2 = .c (.sl fl 1 (intsOf (nx b))) ∧ lk 17 e2 = .c (.int .i64 (nx b).length) ∧ lk 18 e2 = .c (.int .i64 i)) ?_ ?_
    ·intro Q hnr _ _
     have htk2 : List.take rows.length (boolsOf S1) = boolsOf S1 := List.take_of_length_le (by rw [boolsOf_len]; omega)
     refine c_block ?_
     refine s_reg ?_
     simp only [go_sem, hw, hlt, intsOf_len, intsOf_getD _ _ hlt]
     refine s_reg ?_
     simp only [go_sem, hx4, hy, hwl, hwS, htk2, hd1, boolsOf_len, boolsOf_getD _ _ hwS, List.drop_zero, Nat.zero_add, Nat.le_refl]
     refine c_cond rfl ?_ ?_
     ·intro hc2
      have hsw : S1.getD w false = false := not_t hc2
      refine c_reg ?_
      simp only [go_sem, hx5]
      refine ih w S1 o1 oc1 Lg1 H2 _ hd1 (by omega) hwl hsw kn hgr (by omega) fun S2 o2 oc2 Lg2 H3 hd' kn hgr => ?_
      refine hnr _ _ ⟨S2, o2, oc2, Lg2, ?_, kn, hgr, rfl, rfl, rfl, rfl, rfl, rfl, rfl⟩
      rw [hwn]; exact hd.app hd'
     ·intro hc2
      have hsw : S1.getD w false = true := not_f hc2
      refine c_skip ?_
      simp only [go_sem]
      refine hnr _ _ ⟨S1, o1, oc1, Lg1, ?_, kn, hgr, rfl, rfl, rfl, rfl, rfl, rfl, rfl⟩
      rw [hwn]; exact hd.app (.skip hsw (.nil _ _))
    ·rintro e2 H3 ⟨S2, o2, oc2, Lg2, hd, kn, hgr, l0, l1, l3, l4, l16, l17, l18⟩
     refine c_reg ?_
     simp only [go_sem, X.next, l0, l1, l3, l4, l16, l17, l18]
     exact ⟨inR64 (by omega) (by omega), (nx b).length - (i + 1), by omega, i + 1, S2, o2, oc2, Lg2, rfl, by omega, hd, kn, hgr, rfl⟩
   ·intro hc
    have hge : (nx b).length ≤ i := by simpa using hc
    rw [List.take_of_length_le (by rw [hnxl]; exact hge)] at hd
    have hocw := hgr.isOw
    refine c_exit ?_
    simp only [go_sem, X.next]
    refine c_reg ?_
    simp only [go_sem, hx3, hocw]
    refine kn.grow (new := intsOf [(b : Int)]) hgr (.mk' _ _ _ _) (intsOf_noOw _) (by simp only [natsOf_len, intsOf_len, LIM, List.length_cons, List.length_nil]; omega) fun z H3 kn => ?_
    have hx3 := kn.e 1 rfl
    simp only [go_sem, s_im_visits_c1_i5, hx3]
    intro H4 h4
    have kn := kn.stE 1 rfl h4
    simp only [go_sem, endQ, retT, r_im_visits_c1, List.not_mem_nil]
    refine ⟨fun _ => trivial, hK S1 (o1 ++ [b]) _ _ H4 (.one hsb hd) kn ?_⟩
    rw [← natsOf_snoc]
    exact .mk _ _ _ (by simp)
set_option maxHeartbeats 1000000 in
theorem visits_own_c {p rg : Int} {bc : C} {rows : List (List C)} {nx : Nat → List Int} (hg : GRd H bc rows nx) (hfit : fitsB rows.length nx = true) (hn : rows.length ≤ 1000000)
  (hK : ∀ (S : List Bool) (o : List Nat) (t : C) (Lg : List (Nat × Obj)) (H' : Heap), Gr Lg 1 (natsOf o) t → Kn H H' [] ([] ++ Lg) → Dfs (nxN nx) [0] (List.replicate rows.length false) [] S o → K (.c t) H') :
  ACall prog fn_im_visits [.ag [.int .i64 p, .int .i64 rg, bc]] H K := by
 refine call_sound hmix m_im_visits ?_
 have how := hg.ow
 have hlen := hg.s.len
 have hn0 := fitsB_pos hfit
 refine s_reg ?_
 simp only [go_sem, how]
 refine s_reg ?_
 simp only [go_sem]
 intro x3 hx3 H1 h1
 have kn := (Kn.start0 H).al hx3 h1
 have hg1 := hg.keep0 kn
 have hok1 := eq_true hg1.s.ok
 refine s_reg ?_
 simp only [go_sem, how, hok1, hlen, boolsOf_replicate]
 intro hl
 refine ⟨by simp only [LIM]; omega, fun y hy H2 h2 => ?_⟩
 have kn := kn.al hy h2
 simp only [go_sem, s_im_visits_i1]
 intro x4 hx4 H3 h3
 have kn := kn.al hx4 h3
 have hx4 := kn.l 2 rfl
 simp only [go_sem, s_im_visits_i0, hx4]
 intro H4 h4
 have kn := kn.stL 2 rfl h4
 refine s_reg ?_
 simp only [go_sem]
 intro x5 hx5 H5 h5
 have kn := kn.al hx5 h5
 have hx5 := kn.l 3 rfl
 refine s_reg ?_
 simp only [go_sem, how, hx5]
 intro H6 h6
 have kn := kn.stL 3 rfl h6
 have kn : Kn H H6 [] ([(x3, .st [.sl true 1 []]), (y, .vec 1 (boolsOf (List.replicate rows.length false))), (x4, .st [.vsl y 1 0 rows.length]), (x5, .st [.fn fn_im_visits_c1 (visCaps x3 x4 x5 p rg bc)])]) := kn
 have kn : Kn H H6 [] (visE x3 x4 x5 y rows.length p rg bc (List.replicate rows.length false) (.sl true 1 []) ++ []) := kn.perm (List.Perm.swap _ _ _)
 have hx5 := kn.l 3 rfl
 have hg6 := hg.keep0 kn
 have hyb : ∀ l a b d, bc = .vsl l a b d → l ≠ y ∧ l ≠ x3 ∧ l ≠ x4 ∧ l ≠ x5 := by
  intro l a b d hh
  have hu : H l ≠ .none := by
   have := hg.s.ok
   rw [hh] at this
   intro h0
   simp only [okSl, h0] at this
  exact ⟨fun h => hu (h ▸ kn.free 0 rfl), fun h => hu (h ▸ kn.free 1 rfl), fun h => hu (h ▸ kn.free 2 rfl), fun h => hu (h ▸ kn.free 3 rfl)⟩
 refine s_reg ?_
 simp only [go_sem, hx5]
 refine visit_c hfit hn hg6 hyb rows.length 0 (List.replicate rows.length false) [] (.sl true 1 []) [] H6 _ (by simp) (by omega) hn0 (replicate_getD _ _) kn.mid (.nil 1) (by simp) fun S o oc Lg H7 hd k2 hgr => ?_
 have kn := kn.comp k2 rfl
 have hx3 := kn.l 1 rfl
 have hocw := hgr.isOw
 refine s_reg ?_
 simp only [go_sem, hx3, hocw]
 refine c_ret ?_
 simp only [go_sem, endQ, retT, r_im_visits, List.mem_singleton, forall_eq, RS.op]
 have kn := kn.perm (L' := ([] ++ Lg) ++ (visE x3 x4 x5 y rows.length p rg bc S oc ++ [])) (by rw [List.nil_append]; exact List.perm_append_comm)
 exact hK S o oc Lg _ hgr kn.drop hd
end Go.AE.Y

namespace Go.AE.Y
variable {ns : List Int} {n : Int} {at' : Nat}
structure InsAt (ns : List Int) (n : Int) (k : Nat) : Prop where
 le : k ≤ ns.length
 lo : ∀ i, i < k → ∀ (h : i < ns.length), ns[i] < n
 hi : ∀ (h : k < ns.length), n ≤ ns[k]
theorem InsAt.mem_of_asc {k : Nat} (h : InsAt ns n k) (ha : ns.Pairwise (· < ·)) : (∀ x ∈ ns.take k, x < n) ∧ (∀ x ∈ ns.drop k, n ≤ x) ∧ (∀ x ∈ ns.drop (k + 1), n < x) := by
 have hp := List.pairwise_iff_getElem.1 ha
 refine ⟨fun x hx => ?_, fun x hx => ?_, fun x hx => ?_⟩
 ·obtain ⟨i, hi, rfl⟩ := List.mem_iff_getElem.1 hx
  rw [List.getElem_take]
  rw [List.length_take] at hi
  exact h.lo i (by omega) (by omega)
 ·obtain ⟨i, hi, rfl⟩ := List.mem_iff_getElem.1 hx
  rw [List.getElem_drop]
  rw [List.length_drop] at hi
  have h1 := h.hi (by omega)
  by_cases h0 : i = 0
  ·subst h0; exact h1
  ·have := hp k (k + i) (by omega) (by omega) (by omega)
   exact Int.le_trans h1 (Int.le_of_lt this)
 ·obtain ⟨i, hi, rfl⟩ := List.mem_iff_getElem.1 hx
  rw [List.getElem_drop]
  rw [List.length_drop] at hi
  have h1 := h.hi (by omega)
  have := hp k (k + 1 + i) (by omega) (by omega) (by omega)
  exact Int.lt_of_le_of_lt h1 this
theorem InsAt.new {k : Nat} (h : InsAt ns n k) (ha : ns.Pairwise (· < ·)) (hn : ∀ (h : k < ns.length), ns[k] ≠ n) :
  (ns.take k ++ [n] ++ ns.drop k).Pairwise (· < ·) ∧ (∀ x, x ∈ ns.take k ++ [n] ++ ns.drop k ↔ x = n ∨ x ∈ ns) := by
 obtain ⟨h1, h2, h3⟩ := h.mem_of_asc ha
 have h4 : ∀ x ∈ ns.drop k, n < x := by
  intro x hx
  have hk : k < ns.length := by
   rcases Nat.lt_or_ge k ns.length with h | h
   ·exact h
   ·rw [List.drop_eq_nil_of_le h] at hx; simp at hx
  rw [List.drop_eq_getElem_cons hk] at hx
  rcases List.mem_cons.1 hx with rfl | hx
  ·have := h.hi hk; have := hn hk; omega
  ·exact h3 x hx
 refine ⟨?_, fun x => ?_⟩
 ·rw [List.append_assoc, List.pairwise_append]
  refine ⟨ha.sublist (List.take_sublist _ _), ?_, fun a ha' b hb => ?_⟩
  ·rw [List.singleton_append, List.pairwise_cons]
   exact ⟨h4, ha.sublist (List.drop_sublist _ _)⟩
  ·have := h1 a ha'
   rcases List.mem_append.1 hb with hb | hb
   ·simp at hb; subst hb; exact this
   ·have := h2 b hb; omega
 ·conv => rhs; rw [← List.take_append_drop k ns]
  simp only [List.mem_append, List.mem_singleton]
  constructor
  ·rintro ((h | h) | h)
   ·exact .inr (.inl h)
   ·exact .inl h
   ·exact .inr (.inr h)
  ·rintro (h | h | h)
   ·exact .inl (.inr h)
   ·exact .inl (.inl h)
   ·exact .inr h
theorem asc_ints {ns : List Int} {l : List Nat} (h1 : ns.Pairwise (· < ·)) (h2 : l.Pairwise (· < ·)) (h : ∀ x, x ∈ ns ↔ ∃ y ∈ l, (y : Int) = x) : ns = l.map Int.ofNat := by
 have hnn : ∀ x ∈ ns, 0 ≤ x := fun x hx => by obtain ⟨y, _, rfl⟩ := (h x).1 hx; omega
 have e : ns = (ns.map Int.toNat).map Int.ofNat := by
  rw [List.map_map]
  conv => lhs; rw [← List.map_id ns]
  refine List.map_congr_left fun x hx => ?_
  have := hnn x hx
  simp only [Function.comp_def, id]
  exact (Int.toNat_of_nonneg this).symm
 rw [e]
 congr 1
 refine asc_eq ?_ h2 fun x => ?_
 ·rw [List.pairwise_map]
  refine List.Pairwise.imp_of_mem (fun {a b} ha hb hab => ?_) h1
  have := hnn a ha; have := hnn b hb; omega
 ·constructor
  ·intro hx
   obtain ⟨y, hy, rfl⟩ := List.mem_map.1 hx
   obtain ⟨z, hz, rfl⟩ := (h y).1 hy
   simpa using hz
  ·intro hx
   exact List.mem_map.2 ⟨(x : Int), (h x).2 ⟨x, hx, rfl⟩, by simp⟩
end Go.AE.Y

namespace Go.AE.Y
open Go.Proofs.Tryz
variable {H H0 : Heap} {K : V → Heap → Prop}
theorem l10At_c {c : C} {ns : List Int} {v : Int} (hs : Slc H 1 (intsOf ns) c) (how : c.isOw = false) (hK : ∀ r, IsIx ns v r → K (.c (.int .i64 r)) H) :
  ACall prog fn_l10At [.c c, .c (.int .i64 v)] H K := by
 refine call_sound hmix m_l10At ?_
 have hok := eq_true hs.ok
 have hlen := hs.len
 have hsz := hs.sz
 have hrw := hs.rows
 refine s_reg ?_
 simp only [go_sem, how]
 refine c_as ?_
 refine s_reg ?_
 simp only [go_sem, how]
 refine c_seq (c_block (c_loop (fun m e1 H1 => ∃ (i : Nat), m = ns.length - i ∧ i ≤ ns.length ∧ H1 = H ∧ v ∉ ns.take i ∧ e1 = [(0, .c c), (1, .c (.int .i64 v)), (5, .c (.int .i64 i))]) ns.length ?_ ?_))
 ·exact ⟨0, by omega, by omega, rfl, by simp, rfl⟩
 ·rintro m e1 H1 ⟨i, hm, hi, rfl, hno, rfl⟩
  refine c_as ?_
  refine s_reg ?_
  simp only [go_sem, how, hok, hlen, intsOf_len]
  intro hl
  simp only [LIM] at hl
  refine c_seq (c_cond rfl ?_ ?_)
  ·intro hc
   have hlt : i < ns.length := by simpa using hc
   have hgd : ns.getD i 0 = ns[i] := by simp [List.getD_eq_getElem?_getD, hlt]
   refine c_skip ?_
   simp only [go_sem]
   refine c_seq (c_block ?_)
   refine s_reg ?_
   simp only [go_sem, how, hok, hlen, hsz, hrw, hlt, intsOf_len, intsOf_getD _ _ hlt]
   refine c_cond rfl ?_ ?_
   ·intro hc2
    have hv : ns.getD i 0 = v := by simpa using hc2
    refine s_reg ?_
    simp only [go_sem]
    refine c_ret ?_
    simp only [go_sem, X.next, endQ, retT, r_l10At, List.mem_singleton, forall_eq, RS.op]
    exact hK _ (.inr ⟨i, rfl, hlt, hv, hno⟩)
   ·intro hc2
    have hv : ¬ ns.getD i 0 = v := by simpa using hc2
    refine c_skip ?_
    simp only [go_sem]
    refine c_reg ?_
    simp only [go_sem, how, X.next]
    refine ⟨inR64 (by omega) (by omega), ns.length - (i + 1), by omega, i + 1, rfl, by omega, ?_, rfl⟩
    rw [List.take_succ_eq_append_getElem hlt]
    simp only [List.mem_append, List.mem_singleton, not_or]
    exact ⟨hno, fun h => hv (by rw [hgd]; exact h.symm)⟩
  ·intro hc
   have hge : ns.length ≤ i := by simpa using hc
   rw [List.take_of_length_le hge] at hno
   refine c_exit ?_
   simp only [go_sem, X.next]
   refine s_reg ?_
   simp only [go_sem]
   refine c_ret ?_
   simp only [go_sem, endQ, retT, r_l10At, List.mem_singleton, forall_eq, RS.op]
   exact hK _ (.inl ⟨rfl, hno⟩)
theorem wwHas_c {c : C} {ns : List Int} {v : Int} (hs : Slc H 1 (intsOf ns) c) (how : c.isOw = false) (hK : K (.c (.bool (ns.contains v))) H) :
  ACall prog fn_la_wwHas [.c c, .c (.int .i64 v)] H K := by
 refine call_sound hmix m_la_wwHas ?_
 have hok := eq_true hs.ok
 have hlen := hs.len
 have hsz := hs.sz
 have hrw := hs.rows
 refine s_reg ?_
 simp only [go_sem, how]
 refine c_as ?_
 refine s_reg ?_
 simp only [go_sem, how, hok, hlen, intsOf_len]
 intro hl
 simp only [LIM] at hl
 refine c_seq (c_block (c_loop (fun m e1 H1 => ∃ (i : Nat), m = ns.length - i ∧ i ≤ ns.length ∧ H1 = H ∧ v ∉ ns.take i ∧ e1 = [(1, .c (.int .i64 v)), (7, .c c), (8, .c (.int .i64 ns.length)), (9, .c (.int .i64 i))]) ns.length ?_ ?_))
 ·exact ⟨0, by omega, by omega, rfl, by simp, rfl⟩
 ·rintro m e1 H1 ⟨i, hm, hi, rfl, hno, rfl⟩
  refine s_reg ?_
  simp only [go_sem, how]
  refine c_seq (c_cond rfl ?_ ?_)
  ·intro hc
   have hlt : i < ns.length := by simpa using hc
   have hgd : ns.getD i 0 = ns[i] := by simp [List.getD_eq_getElem?_getD, hlt]
   refine c_skip ?_
   simp only [go_sem]
   refine c_seq (c_block ?_)
   refine s_reg ?_
   simp only [go_sem, how, hok, hlen, hsz, hrw, hlt, intsOf_len, intsOf_getD _ _ hlt]
   refine s_reg ?_
   simp only [go_sem, how]
   refine c_cond rfl ?_ ?_
   ·intro hc2
    have hv : ns.getD i 0 = v := by simpa using hc2
    refine s_reg ?_
    simp only [go_sem]
    refine c_ret ?_
    simp only [go_sem, X.next, endQ, retT, r_la_wwHas, List.mem_singleton, forall_eq, RS.op]
    have : ns.contains v = true := List.contains_iff_mem.2 (by rw [← hv, hgd]; exact List.getElem_mem hlt)
    rw [this] at hK; exact hK
   ·intro hc2
    have hv : ¬ ns.getD i 0 = v := by simpa using hc2
    refine c_skip ?_
    simp only [go_sem]
    refine c_reg ?_
    simp only [go_sem, how, X.next]
    refine ⟨inR64 (by omega) (by omega), ns.length - (i + 1), by omega, i + 1, rfl, by omega, ?_, rfl⟩
    rw [List.take_succ_eq_append_getElem hlt]
    simp only [List.mem_append, List.mem_singleton, not_or]
    exact ⟨hno, fun h => hv (by rw [hgd]; exact h.symm)⟩
  ·intro hc
   have hge : ns.length ≤ i := by simpa using hc
   rw [List.take_of_length_le hge] at hno
   refine c_exit ?_
   simp only [go_sem, X.next]
   refine s_reg ?_
   simp only [go_sem]
   refine c_ret ?_
   simp only [go_sem, endQ, retT, r_la_wwHas, List.mem_singleton, forall_eq, RS.op]
   have : ns.contains v = false := by
    cases hcc : ns.contains v with
    | false => rfl
    | true => exact absurd (List.contains_iff_mem.1 hcc) hno
   rw [this] at hK; exact hK
set_option maxHeartbeats 1000000 in
theorem l7Insert_c {fl : Bool} {ns : List Int} {n : Int} (ha : ns.Pairwise (· < ·)) (hL : ns.length + 1 ≤ 2 ^ 38)
  (hK : ∀ (fl' : Bool) (ns' : List Int) (H' : Heap), Upd H H' [] → ns'.Pairwise (· < ·) → (∀ x, x ∈ ns' ↔ x = n ∨ x ∈ ns) → ns'.length ≤ ns.length + 1 → K (.c (.sl fl' 1 (intsOf ns'))) H') :
  ACall prog fn_l7Insert [.c (.sl fl 1 (intsOf ns)), .c (.int .i64 n)] H K := by
 refine acall_un ?_
 refine call_sound hmix m_l7Insert ?_
 have rest : ∀ i : Nat, InsAt ns n i → codeT prog s_l7Insert_8 (endQ r_l7Insert fun x H' => ∃ x', FrzV H' (un H) x x' ∧ K x' (H'.frz (un H))) [(0, V.c (.sl fl 1 (intsOf ns))), (1, .c (.int .i64 n)), (5, .c (.int .i64 i))] H := by
  intro i hat
  have hile := hat.le
  refine c_as ?_
  refine s_reg ?_
  have tail : ∀ e : Env, (∀ (h : i < ns.length), ns[i] ≠ n) → lk 0 e = .c (.sl fl 1 (intsOf ns)) → lk 1 e = .c (.int .i64 n) → lk 5 e = .c (.int .i64 i) → codeT prog s_l7Insert_7 (endQ r_l7Insert fun x H' => ∃ x', FrzV H' (un H) x x' ∧ K x' (H'.frz (un H))) e H := by
   intro e hne l0 l1 l5
   obtain ⟨q1, q2⟩ := hat.new ha hne
   have ht1 : List.take i (intsOf ns) = intsOf (ns.take i) := by simp [intsOf, List.map_take]
   have ht2 : List.drop i (List.take ns.length (intsOf ns)) = intsOf (ns.drop i) := by
    rw [List.take_of_length_le (by rw [intsOf_len]; exact Nat.le_refl _)]; simp [intsOf, List.map_drop]
   refine s_reg ?_
   simp only [go_sem, l0, l1, l5, intsOf_len, ht1]
   refine ⟨by omega, ?_⟩
   refine ⟨.inl trivial, intsOf_noOw _, by simp only [LIM, List.length_take]; omega, fun z hz H1 h1 => ?_⟩
   have kn : Kn H H1 [] ([] ++ [(z, .vec 1 (intsOf (ns.take i)))]) := (Kn.start0 H).al hz h1
   simp only [go_sem, s_l7Insert_i3, l0, l1, l5]
   generalize ht6 : C.vsl z 1 0 (0 + (List.take i ns).length) = t6
   have hgr : Gr [(z, .vec 1 (intsOf (ns.take i)))] 1 (intsOf (ns.take i)) t6 := by rw [← ht6]; exact .mk z 1 _ (by simp [intsOf_len])
   have hw6 := hgr.isOw
   refine s_dreg ?_
   simp only [go_sem, hw6, intsOf_len, ht2]
   refine ⟨by omega, ?_⟩
   refine kn.growR (new := intsOf [n]) hgr (.mk' _ _ _ _) (intsOf_noOw _) (by simp only [intsOf_len, LIM, List.length_take, List.length_nil, List.length_cons]; omega) fun t7 Lg H2 hgr hw7 kn => ?_
   simp only [go_sem, s_l7Insert_i5, hw7, intsOf_len, ht2]
   refine ⟨by omega, ?_⟩
   refine kn.growR (new := intsOf (ns.drop i)) hgr (.mk' _ _ _ _) (intsOf_noOw _) (by simp only [intsOf_len, LIM, List.length_take, List.length_drop, List.length_nil, List.length_cons, List.length_append]; omega) fun t8 Lg H3 hgr hw8 kn => ?_
   simp only [go_sem, s_l7Insert_i4]
   refine c_ret ?_
   simp only [go_sem, endQ, retT, r_l7Insert, List.mem_singleton, forall_eq, RS.op]
   have e0 : intsOf (ns.take i) ++ intsOf [n] ++ intsOf (ns.drop i) = intsOf (ns.take i ++ [n] ++ ns.drop i) := by simp [intsOf]
   rw [e0] at hgr
   refine ⟨_, .c _ _ (hgr.frz kn (intsOf_noOw _)), hK _ _ _ kn.fin q1 q2 ?_⟩
   simp; omega
  simp only [go_sem, intsOf_len]
  by_cases hlt : i < ns.length
  ·have hgd : ns.getD i 0 = ns[i] := by simp [List.getD_eq_getElem?_getD, hlt]
   simp only [go_sem, hlt, intsOf_len, intsOf_getD _ _ hlt]
   intro _
   refine c_seq (c_cond rfl ?_ ?_)
   ·intro hc2
    have he : ns[i] = n := by rw [← hgd]; simpa [hlt] using hc2
    refine s_reg ?_
    simp only [go_sem]
    refine c_ret ?_
    simp only [go_sem, endQ, retT, r_l7Insert, List.mem_singleton, forall_eq, RS.op]
    refine ⟨_, .c _ _ (frzc_sl (noOw_mem (intsOf_noOw _))), hK _ ns _ (Kn.start0 H).fin ha (fun x => ⟨.inr, ?_⟩) (by omega)⟩
    rintro (rfl | h)
    ·rw [← he]; exact List.getElem_mem hlt
    ·exact h
   ·intro hc2
    have he : ns[i] ≠ n := by rw [← hgd]; simpa [hlt] using hc2
    refine c_skip ?_
    simp only [go_sem]
    exact tail _ (fun _ => he) rfl rfl rfl
  ·have hdf : decide ((i : Int) < (ns.length : Int)) = false := by simp; omega
   have hgo : (intsOf ns).getD i [] = [] := by rw [List.getD_eq_getElem?_getD, List.getElem?_eq_none (by rw [intsOf_len]; omega)]; rfl
   simp only [go_sem, hdf, hgo, intsOf_len, cond_false]
   intro _
   refine c_seq (c_cond rfl ?_ ?_)
   ·intro hc2; simp at hc2
   ·intro _
    refine c_skip ?_
    simp only [go_sem]
    exact tail _ (fun h => absurd h hlt) rfl rfl rfl
 refine s_reg ?_
 simp only [go_sem]
 refine s_reg ?_
 simp only [go_sem]
 refine c_seq (c_block (c_loop (fun m e1 H1 => ∃ (i : Nat), m = ns.length - i ∧ i ≤ ns.length ∧ H1 = H ∧ (∀ k, k < i → ∀ (h : k < ns.length), ns[k] < n) ∧ e1 = [(0, .c (.sl fl 1 (intsOf ns))), (1, .c (.int .i64 n)), (5, .c (.int .i64 i))]) ns.length ?_ ?_))
 ·exact ⟨0, by omega, by omega, rfl, fun k hk => by omega, rfl⟩
 ·rintro m e1 H1 ⟨i, hm, hi, rfl, hlo, rfl⟩
  refine c_as ?_
  refine s_reg ?_
  by_cases hlt : i < ns.length
  ·have hgd : ns.getD i 0 = ns[i] := by simp [List.getD_eq_getElem?_getD, hlt]
   simp only [go_sem, hlt, intsOf_len, intsOf_getD _ _ hlt]
   intro _
   refine c_seq (c_cond rfl ?_ ?_)
   ·intro hc
    have hv : ns[i] < n := by rw [← hgd]; simpa [hlt] using hc
    refine c_skip ?_
    simp only [go_sem]
    refine c_block ?_
    refine c_reg ?_
    simp only [go_sem, X.next]
    refine ⟨inR64 (by omega) (by omega), ns.length - (i + 1), by omega, i + 1, rfl, by omega, fun k hk h => ?_, rfl⟩
    by_cases h' : k < i
    ·exact hlo k h' h
    ·have : k = i := by omega
     subst this; exact hv
   ·intro hc
    have hv : ¬ ns[i] < n := by rw [← hgd]; simpa [hlt] using hc
    refine c_exit ?_
    simp only [go_sem, X.next]
    exact rest i ⟨hi, hlo, fun _ => by omega⟩
  ·have hdf : decide ((i : Int) < (ns.length : Int)) = false := by simp; omega
   have hgo : (intsOf ns).getD i [] = [] := by rw [List.getD_eq_getElem?_getD, List.getElem?_eq_none (by rw [intsOf_len]; omega)]; rfl
   simp only [go_sem, hdf, hgo, intsOf_len, cond_false]
   intro _
   refine c_seq (c_cond rfl ?_ ?_)
   ·intro hc2; simp at hc2
   ·intro _
    refine c_exit ?_
    simp only [go_sem, X.next]
    exact rest i ⟨hi, hlo, fun h => absurd h hlt⟩
end Go.AE.Y

namespace Go.AE.Y
attribute [local instance] Classical.propDecidable
variable {g : Nat → List Nat} {n h : Nat}
theorem rchB_iff {a : Int} {x : Nat} : rchB g a x = true ↔ Rch g (fun z => (z : Int) = a) 0 x := by simp [rchB]
theorem rchB_self (b : Nat) : rchB g (b : Int) b = false := by
 cases hc : rchB g (b : Int) b with
 | false => rfl
 | true => exact absurd rfl (rchB_iff.1 hc).snd
theorem domB_self (b : Nat) : domB g b b = rchB g (-1) b := by simp [domB, rchB_self]
theorem domB_in {a b : Nat} (h : domB g a b = true) : rchB g (-1) a = true ∧ rchB g (-1) b = true := by
 simp only [domB, Bool.and_eq_true] at h
 exact ⟨h.1.1, h.1.2⟩
theorem Bdy.reached {b : Nat} (hi : rchB g (-1) h = true) (hb : Bdy n g h b) : rchB g (-1) b = true := by
 cases hb with
 | head => exact hi
 | back _ h2 => exact (domB_in h2).2
 | more _ _ _ h2 => exact h2
theorem Bdy.of_dfs {S0 S' : List Bool} {o o' : List Nat} (hi : rchB g (-1) h = true) (hh : h < n) (hl : S0.length = n) (h0 : ∀ x, x < n → S0.getD x false = (decide (x = h) || !rchB g (-1) x))
  (hd : Dfs (predL n g) ((predL n g h).filter (domB g h)) S0 o S' o') {x : Nat} (hx : x < n) (hix : rchB g (-1) x = true) : S'.getD x false = true ↔ Bdy n g h x := by
 have hgl : ∀ x, x < S0.length → ∀ y ∈ predL n g x, y < S0.length := fun x _ y hy => by rw [hl]; exact (predL_mem.1 hy).1
 have hseen := hd.seen hgl (fun x hx => by rw [hl]; exact (predL_mem.1 (List.mem_filter.1 hx).1).1)
 have hns : ∀ z, z < n → S0.getD z false ≠ true → z ≠ h ∧ rchB g (-1) z = true := by
  intro z hz hs
  rw [h0 z hz] at hs
  refine ⟨fun e => hs (by simp [e]), ?_⟩
  cases hc : rchB g (-1) z with
  | true => rfl
  | false => exact absurd (by simp [hc]) hs
 constructor
 ·intro hs
  rcases (hseen x).1 hs with hs | ⟨p, hp, hr⟩
  ·rw [h0 x hx, hix] at hs
   have : x = h := by simpa using hs
   subst this; exact .head
  ·obtain ⟨hp1, hp2⟩ := List.mem_filter.1 hp
   have key : ∀ y, Rch (predL n g) (fun z => S0.getD z false = true) p y → Bdy n g h y := by
    intro y hr
    induction hr with
    | refl _ => exact .back hp1 hp2
    | @step y z h1 h2 h3 ih =>
     have hy : y < n := ih.lt hh
     have hz := (predL_mem.1 h2).1
     exact .more ih (hns y hy h1.snd).1 h2 (hns z hz h3).2
   exact key x hr
 ·intro hb
  have key : ∀ b, Bdy n g h b → S'.getD b false = true := by
   intro b hb
   induction hb with
   | head => exact hd.mono _ (by rw [h0 h hh]; simp)
   | @back p h1 h2 =>
    by_cases hs : S0.getD p false = true
    ·exact hd.mono _ hs
    ·exact (hseen p).2 (.inr ⟨p, List.mem_filter.2 ⟨h1, h2⟩, .refl hs⟩)
   | @more b p h1 h2 h3 h4 ih =>
    by_cases hs : S0.getD p false = true
    ·exact hd.mono _ hs
    ·rcases (hseen b).1 ih with hs2 | ⟨q, hq, hr⟩
     ·rw [h0 b (h1.lt hh), h1.reached hi] at hs2
      exact absurd (by simpa using hs2) h2
     ·exact (hseen p).2 (.inr ⟨q, hq, hr.step h3 hs⟩)
  exact key x hb
structure BWk (n : Nat) (g : Nat → List Nat) (h : Nat) (O W : List Nat) : Prop where
 asc : O.Pairwise (· < ·)
 o : ∀ x ∈ O, Bdy n g h x
 w : ∀ x ∈ W, rchB g (-1) x = true → Bdy n g h x
 c : ∀ x ∈ O, x ≠ h → ∀ p ∈ predL n g x, rchB g (-1) p = true → p ∈ O ∨ p ∈ W
 l : ∀ p ∈ predL n g h, domB g h p = true → p ∈ O ∨ p ∈ W
 h : h ∈ O
 r : ∀ x ∈ W, x < n
variable {O W : List Nat} {b : Nat}
theorem BWk.init : BWk n g h [h] ((predL n g h).filter (domB g h)) := by
 refine ⟨by simp, fun x hx => ?_, fun x hx _ => ?_, fun x hx hne => ?_, fun p hp hd => .inr (List.mem_filter.2 ⟨hp, hd⟩), by simp, fun x hx => (predL_mem.1 (List.mem_filter.1 hx).1).1⟩
 ·simp at hx; subst hx; exact .head
 ·exact .back (List.mem_filter.1 hx).1 (List.mem_filter.1 hx).2
 ·simp at hx; exact absurd hx hne
theorem BWk.skip (k : BWk n g h O (b :: W)) (hb : b ∈ O ∨ rchB g (-1) b = false) : BWk n g h O W := by
 refine ⟨k.asc, k.o, fun x hx => k.w x (List.mem_cons_of_mem _ hx), fun x hx hne p hp hi => ?_, fun p hp hd => ?_, k.h, fun x hx => k.r x (List.mem_cons_of_mem _ hx)⟩
 ·rcases k.c x hx hne p hp hi with h1 | h1
  ·exact .inl h1
  ·rcases List.mem_cons.1 h1 with rfl | h1
   ·rcases hb with hb | hb
    ·exact .inl hb
    ·rw [hb] at hi; simp at hi
   ·exact .inr h1
 ·rcases k.l p hp hd with h1 | h1
  ·exact .inl h1
  ·rcases List.mem_cons.1 h1 with rfl | h1
   ·rcases hb with hb | hb
    ·exact .inl hb
    ·rw [(domB_in hd).2] at hb; simp at hb
   ·exact .inr h1
theorem BWk.go {O' : List Nat} (k : BWk n g h O (b :: W)) (hbO : b ∉ O) (hi : rchB g (-1) b = true) (h1 : O'.Pairwise (· < ·)) (h2 : ∀ x, x ∈ O' ↔ x = b ∨ x ∈ O) : BWk n g h O' (W ++ predL n g b) := by
 have hB := k.w b List.mem_cons_self hi
 have hbh : b ≠ h := fun e => hbO (e ▸ k.h)
 refine ⟨h1, fun x hx => ?_, fun x hx hix => ?_, fun x hx hne p hp hip => ?_, fun p hp hd => ?_, (h2 h).2 (.inr k.h), fun x hx => ?_⟩
 ·rcases (h2 x).1 hx with rfl | hx
  ·exact hB
  ·exact k.o x hx
 ·rcases List.mem_append.1 hx with hx | hx
  ·exact k.w x (List.mem_cons_of_mem _ hx) hix
  ·exact .more hB hbh hx hix
 ·rcases (h2 x).1 hx with rfl | hx
  ·exact .inr (List.mem_append_right _ hp)
  ·rcases k.c x hx hne p hp hip with h3 | h3
   ·exact .inl ((h2 p).2 (.inr h3))
   ·rcases List.mem_cons.1 h3 with rfl | h3
    ·exact .inl ((h2 p).2 (.inl rfl))
    ·exact .inr (List.mem_append_left _ h3)
 ·rcases k.l p hp hd with h3 | h3
  ·exact .inl ((h2 p).2 (.inr h3))
  ·rcases List.mem_cons.1 h3 with rfl | h3
   ·exact .inl ((h2 p).2 (.inl rfl))
   ·exact .inr (List.mem_append_left _ h3)
 ·rcases List.mem_append.1 hx with hx | hx
  ·exact k.r x (List.mem_cons_of_mem _ hx)
  ·exact (predL_mem.1 hx).1
theorem BWk.fin (hh : h < n) (k : BWk n g h O []) : O = bodyL n g h := by
 refine asc_eq k.asc bodyL_asc fun x => ?_
 rw [bodyL_mem hh]
 refine ⟨k.o x, fun hb => ?_⟩
 induction hb with
 | head => exact k.h
 | back h1 h2 => exact (k.l _ h1 h2).resolve_right (by simp)
 | more h1 h2 h3 h4 ih => exact (k.c _ ih h2 _ h3 h4).resolve_right (by simp)
theorem BWk.len (k : BWk n g h O W) (hh : h < n) : O.length ≤ n := by
 have e := asc_range (n := n) (p := fun x => decide (x ∈ O)) k.asc fun x => ⟨fun hx => ⟨(k.o x hx).lt hh, by simpa using hx⟩, fun hx => by simpa using hx.2⟩
 have := List.length_filter_le (fun x => decide (x ∈ O)) (List.range n)
 rw [← e] at this
 simpa using this
theorem predL_len (n : Nat) (g : Nat → List Nat) (b : Nat) : (predL n g b).length ≤ n := by
 have := List.length_filter_le (fun i => decide (b ∈ g i)) (List.range n)
 simpa [predL] using this
end Go.AE.Y

namespace Go.AE.Y
open Go.Proofs.Tryz
variable {H H0 : Heap} {K : V → Heap → Prop}
structure GF (rows : List (List C)) (nx : Nat → List Int) : Prop where
 no : ∀ r ∈ rows, noOw r = true
 x : ∀ i, i < rows.length → ∃ a1 a2 a3 a4 fl, rows.getD i [] = [a1, a2, a3, a4, .sl fl 1 (intsOf (nx i))]
 n : rows.length ≤ 10000
 m : ∀ i, i < rows.length → (nx i).length ≤ 1000
theorem GF.grd {rows : List (List C)} {nx : Nat → List Int} (h : GF rows nx) (H : Heap) (fl : Bool) : GRd H (.sl fl 5 rows) rows nx := ⟨.mk' _ _ _ _, rfl, h.no, h.x⟩
theorem gf_code {q : CodeD} (h : q.gd) : GF (blksOf q.blocks) (gnx q) := by
 refine ⟨(grd_code (fun _ => .none) q false).no, (grd_code (fun _ => .none) q false).x, by rw [blksOf_len]; have := h.b1; omega, fun i hi => ?_⟩
 rw [blksOf_len] at hi
 have : gnx q i = q.blocks[i].next := by simp [gnx, List.getD_eq_getElem?_getD, hi]
 rw [this]
 have := h.n _ (List.getElem_mem hi); omega
noncomputable def inL (n : Nat) (g : Nat → List Nat) : List Bool := (List.range n).map (rchB g (-1))
noncomputable def domRow (n : Nat) (g : Nat → List Nat) (a : Nat) : List Bool := (List.range n).map (domB g a)
noncomputable def ovOf (n : Nat) (g : Nat → List Nat) (k : Nat) : List (List C) := (List.range k).map fun a => [.sl false 1 (boolsOf (domRow n g a))]
theorem map_range_getD (n : Nat) (f : Nat → Bool) {i : Nat} (h : i < n) : ((List.range n).map f).getD i false = f i := by simp [List.getD_eq_getElem?_getD, h]
theorem inL_len {n : Nat} {g : Nat → List Nat} : (inL n g).length = n := by simp [inL]
theorem domRow_len {n : Nat} {g : Nat → List Nat} {a : Nat} : (domRow n g a).length = n := by simp [domRow]
theorem ovOf_len {n : Nat} {g : Nat → List Nat} {k : Nat} : (ovOf n g k).length = k := by simp [ovOf]
theorem inL_getD {n : Nat} {g : Nat → List Nat} {i : Nat} (h : i < n) : (inL n g).getD i false = rchB g (-1) i := map_range_getD _ _ h
theorem domRow_getD {n : Nat} {g : Nat → List Nat} {a i : Nat} (h : i < n) : (domRow n g a).getD i false = domB g a i := map_range_getD _ _ h
theorem ovOf_getD {n : Nat} {g : Nat → List Nat} {k a : Nat} (h : a < k) : (ovOf n g k).getD a [] = [.sl false 1 (boolsOf (domRow n g a))] := by simp [ovOf, List.getD_eq_getElem?_getD, h]
noncomputable def domC (p rg : Int) (fl : Bool) (rows : List (List C)) (g : Nat → List Nat) : List C :=
 [.int .i64 p, .int .i64 rg, .sl fl 5 rows, .sl false 1 (ovOf rows.length g rows.length), .sl false 1 (boolsOf (inL rows.length g))]
noncomputable def ysL (n : Nat) (g : Nat → List Nat) (ys : List Nat) : List (Nat × Obj) := ys.zipIdx.map fun x => (x.1, .vec 1 (boolsOf (domRow n g x.2)))
def ysR (n : Nat) (ys : List Nat) : List (List C) := ys.map fun y => [.vsl y 1 0 n]
theorem ysL_snoc (n : Nat) (g : Nat → List Nat) (ys : List Nat) (y : Nat) : ysL n g (ys ++ [y]) = ysL n g ys ++ [(y, .vec 1 (boolsOf (domRow n g ys.length)))] := by
 simp [ysL, List.zipIdx_append]
theorem ysR_snoc (n : Nat) (ys : List Nat) (y : Nat) : ysR n (ys ++ [y]) = ysR n ys ++ [[.vsl y 1 0 n]] := by simp [ysR]
theorem ysR_len (n : Nat) (ys : List Nat) : (ysR n ys).length = ys.length := by simp [ysR]
theorem ys_frz {S : Nat → Bool} {n : Nat} {g : Nat → List Nat} (ys : List Nat) : ∀ (k : Nat), (∀ p ∈ (ys.zipIdx k).map fun x => (x.1, Obj.vec 1 (boolsOf (domRow n g x.2))), H p.1 = p.2 ∧ S p.1 = true) →
  FrzR H S (ysR n ys) ((List.range' k ys.length).map fun a => [.sl false 1 (boolsOf (domRow n g a))]) := by
 induction ys with
 | nil => intro k _; exact .nil
 | cons y ys ih =>
  intro k h
  rw [List.zipIdx_cons, List.map_cons] at h
  obtain ⟨h1, h2⟩ := h _ List.mem_cons_self
  simp only [List.length_cons, List.range'_succ, List.map_cons, ysR]
  refine .cons (.cons ((FrzR.same (boolsOf_noOw _)).vsl h2 h1 (by rw [boolsOf_len, domRow_len])) .nil) (ih (k + 1) fun p hp => h p (List.mem_cons_of_mem _ hp))
theorem ys_frz' {S : Nat → Bool} {n : Nat} {g : Nat → List Nat} (ys : List Nat) (h : ∀ p ∈ ysL n g ys, H p.1 = p.2 ∧ S p.1 = true) : FrzR H S (ysR n ys) (ovOf n g ys.length) := by
 have := ys_frz (H := H) (S := S) (n := n) (g := g) ys 0 h
 rw [← List.range_eq_range'] at this
 exact this
theorem has_c {p rg : Int} {fl : Bool} {rows : List (List C)} {g : Nat → List Nat} {b : Nat} (hb : b < rows.length) (hK : K (.c (.bool (rchB g (-1) b))) H) :
  ACall prog fn_im_doms_has [.c (.pp (domC p rg fl rows g)), .c (.int .i64 b)] H K := by
 refine call_sound hmix m_im_doms_has ?_
 refine s_reg ?_
 simp only [go_sem]
 refine s_reg ?_
 simp only [go_sem, domC, C.isPtr, boolsOf_len, inL_len]
 refine ⟨.inl trivial, fun hl => ?_⟩
 simp only [LIM] at hl
 refine ⟨inR64 (by omega) (by omega), ?_⟩
 refine within_c ?_
 have h1 : (decide ((0 : Int) ≤ (b : Int)) && decide ((b : Int) ≤ (rows.length : Int) - 1)) = true := by simp; omega
 have hbi : b < (inL rows.length g).length := by rw [inL_len]; exact hb
 rw [h1]
 simp only [go_sem, s_im_doms_has_i0, boolsOf_len, inL_len, hb, boolsOf_getD _ _ hbi, inL_getD hb]
 refine c_ret ?_
 simp only [go_sem, endQ, retT, r_im_doms_has, List.mem_singleton, forall_eq, RS.op]
 exact hK
theorem dominates_c {p rg : Int} {fl : Bool} {rows : List (List C)} {g : Nat → List Nat} {a b : Nat} (ha : a < rows.length) (hb : b < rows.length) (hK : K (.c (.bool (domB g a b))) H) :
  ACall prog fn_im_doms_dominates [.c (.pp (domC p rg fl rows g)), .c (.int .i64 a), .c (.int .i64 b)] H K := by
 refine call_sound hmix m_im_doms_dominates ?_
 refine s_reg ?_
 simp only [go_sem]
 refine s_reg ?_
 simp only [go_sem]
 refine has_c ha ?_
 simp only [go_sem, s_im_doms_dominates_i1]
 have hbd : b < (domRow rows.length g a).length := by rw [domRow_len]; exact hb
 refine ⟨fun hin => ?_, fun hin => ?_⟩
 ·refine has_c hb ?_
  simp only [go_sem, s_im_doms_dominates_i0, hin, cond_true, cond_false, domC, ha, hb, ovOf_len, ovOf_getD ha, boolsOf_len, domRow_len, boolsOf_getD _ _ hbd, domRow_getD hb]
  refine c_ret ?_
  simp only [go_sem, endQ, retT, r_im_doms_dominates, List.mem_singleton, forall_eq, RS.op]
  have : (bif rchB g (-1) b then domB g a b else false) = domB g a b := by cases h : rchB g (-1) b <;> simp [domB, h]
  rw [this]; exact hK
 ·simp only [go_sem, s_im_doms_dominates_i0, hin, cond_true, cond_false, domC, ha, hb, ovOf_len, ovOf_getD ha, boolsOf_len, domRow_len, boolsOf_getD _ _ hbd, domRow_getD hb]
  refine c_ret ?_
  simp only [go_sem, endQ, retT, r_im_doms_dominates, List.mem_singleton, forall_eq, RS.op]
  have : domB g a b = false := by simp [domB, hin]
  rw [this] at hK; exact hK
end Go.AE.Y

namespace Go.AE.Y
open Go.Proofs.Tryz
variable {H H0 : Heap} {K : V → Heap → Prop}
theorem map_take_set (n : Nat) (f : Nat → Bool) {i : Nat} (h : i < n) : ((List.range i).map f ++ List.replicate (n - i) false).set i (f i) = (List.range (i + 1)).map f ++ List.replicate (n - (i + 1)) false := by
 refine List.ext_getElem? fun j => ?_
 have e : n - i = (n - (i + 1)) + 1 := by omega
 rw [e, List.replicate_succ, List.range_succ, List.map_append]
 rw [List.set_append]
 simp only [List.length_map, List.length_range, Nat.lt_irrefl, if_false, Nat.sub_self, List.set_cons_zero, List.map_cons, List.map_nil, List.append_assoc, List.singleton_append]
set_option maxHeartbeats 2000000 in
theorem domsOf_c {p rg : Int} {fl : Bool} {rows : List (List C)} {nx : Nat → List Int} (hg : GF rows nx)
  (hN : fitsB rows.length nx = false → ∀ H', Upd H H' [] → K (.c .pnil) H')
  (hK : fitsB rows.length nx = true → ∀ H', Upd H H' [] → K (.c (.pp (domC p rg fl rows (nxN nx)))) H') :
  ACall prog fn_im_domsOf [.ag [.int .i64 p, .int .i64 rg, .sl fl 5 rows]] H K := by
 have hn := hg.n
 refine acall_un ?_
 refine call_sound hmix m_im_domsOf ?_
 refine s_reg ?_
 simp only [go_sem]
 refine c_as ?_
 refine s_reg ?_
 simp only [go_sem]
 refine graphOk_c (hg.grd _ _) ?_
 simp only [go_sem, s_im_domsOf_i0]
 refine c_seq (c_cond rfl ?_ ?_)
 ·intro hc
  have hf := not_t hc
  refine s_reg ?_
  simp only [go_sem]
  refine c_ret ?_
  simp only [go_sem, endQ, retT, r_im_domsOf, List.mem_singleton, forall_eq, RS.op]
  exact ⟨_, .c _ _ (frzc_same rfl), hN hf _ (Kn.start0 H).fin⟩
 ·intro hc
  have hf := not_f hc
  have hn0 := fitsB_pos hf
  refine c_skip ?_
  simp only [go_sem]
  refine s_dreg ?_
  simp only [go_sem]
  refine reachedWithout_c (hg.grd _ _) hf hn hg.m fun H1 hu => ?_
  have kn := (Kn.start0 H).call0 hu
  simp only [go_sem, s_im_domsOf_i3]
  intro x3 hx3 H2 h2
  have kn := kn.al hx3 h2
  simp only [go_sem, s_im_domsOf_i2]
  refine c_as ?_
  refine s_reg ?_
  simp only [go_sem]
  intro _
  refine c_seq (c_block (c_loop (fun m e1 H1 => ∃ (ys : List Nat) (oc : C) (Lg : List (Nat × Obj)), m = rows.length - ys.length ∧ ys.length ≤ rows.length ∧ Gr Lg 1 (ysR rows.length ys) oc ∧
   Kn H H1 [] (([(x3, .st [.int .i64 p, .int .i64 rg, .sl fl 5 rows, oc, .sl false 1 (boolsOf (inL rows.length (nxN nx)))])] ++ ysL rows.length (nxN nx) ys) ++ Lg) ∧
   e1 = [(1, .c (.pp [.int .i64 p, .int .i64 rg, .sl fl 5 rows])), (3, .c (.ptr x3 0)), (18, .c (.int .i64 rows.length)), (19, .c (.int .i64 ys.length))]) rows.length ?_ ?_))
  ·exact ⟨[], _, [], by simp, by simp, .nil 1, kn, rfl⟩
  ·rintro m e1 H1 ⟨ys, oc, Lg, hm, hi, hgr, kn, rfl⟩
   have hx3 := kn.l 0 rfl
   refine s_reg ?_
   simp only [go_sem]
   refine c_seq (c_cond rfl ?_ ?_)
   ·intro hc
    have hlt : ys.length < rows.length := by simpa using hc
    have hlti : ys.length < (inL rows.length (nxN nx)).length := by rw [inL_len]; exact hlt
    refine c_skip ?_
    simp only [go_sem]
    refine c_cut (fun e2 H2 => ∃ (oc : C) (Lg : List (Nat × Obj)) (y : Nat), Gr Lg 1 (ysR rows.length (ys ++ [y])) oc ∧
     Kn H H2 [] (([(x3, .st [.int .i64 p, .int .i64 rg, .sl fl 5 rows, oc, .sl false 1 (boolsOf (inL rows.length (nxN nx)))])] ++ ysL rows.length (nxN nx) (ys ++ [y])) ++ Lg) ∧
     lk 1 e2 = .c (.pp [.int .i64 p, .int .i64 rg, .sl fl 5 rows]) ∧ lk 3 e2 = .c (.ptr x3 0) ∧ lk 18 e2 = .c (.int .i64 rows.length) ∧ lk 19 e2 = .c (.int .i64 ys.length)) ?_ ?_
    ·intro Q hnr _ _
     refine c_block ?_
     refine s_reg ?_
     simp only [go_sem]
     refine s_reg ?_
     simp only [go_sem, boolsOf_replicate]
     intro _
     refine ⟨by simp only [LIM]; omega, fun y hy H2 h2 => ?_⟩
     have kn := (kn.al hy h2).perm (L' := [(x3, .st [.int .i64 p, .int .i64 rg, .sl fl 5 rows, oc, .sl false 1 (boolsOf (inL rows.length (nxN nx)))])] ++ ([(y, .vec 1 (boolsOf (List.replicate rows.length false)))] ++ (ysL rows.length (nxN nx) ys ++ Lg))) (perm_of_add fun f hf h0 hc hp => by simp only [hf]; omega)
     simp only [go_sem, s_im_domsOf_i4]
     have tail : ∀ (e : Env) (H3 : Heap), lk 1 e = .c (.pp [.int .i64 p, .int .i64 rg, .sl fl 5 rows]) → lk 3 e = .c (.ptr x3 0) → lk 18 e = .c (.int .i64 rows.length) → lk 19 e = .c (.int .i64 ys.length) → lk 5 e = .c (.vsl y 1 0 rows.length) →
       Kn H H3 [] ([(x3, .st [.int .i64 p, .int .i64 rg, .sl fl 5 rows, oc, .sl false 1 (boolsOf (inL rows.length (nxN nx)))])] ++ ([(y, .vec 1 (boolsOf (domRow rows.length (nxN nx) ys.length)))] ++ (ysL rows.length (nxN nx) ys ++ Lg))) →
       codeT prog s_im_domsOf_13 Q e H3 := by
      intro e H3 l1 l3 l18 l19 l5 kn
      have hx3 := kn.l 0 rfl
      have hoc := hgr.isOw
      refine c_reg ?_
      simp only [go_sem, l1, l3, l18, l19, l5, hx3, hoc]
      have kn := kn.perm (L' := ([(x3, .st [.int .i64 p, .int .i64 rg, .sl fl 5 rows, oc, .sl false 1 (boolsOf (inL rows.length (nxN nx)))])] ++ ysL rows.length (nxN nx) (ys ++ [y])) ++ Lg) (perm_of_add fun f hf h0 hc hp => by simp only [ysL_snoc, hf]; omega)
      refine kn.grow (new := [[.vsl y 1 0 rows.length]]) hgr (.mk' _ _ _ _) (by simp [Go.AE.noOw, C.isOw]) (by simp only [ysR_len, LIM, List.length_cons, List.length_nil]; omega) fun z H4 kn => ?_
      have hx3 := kn.l 0 rfl
      simp only [go_sem, s_im_domsOf_i12, hx3]
      intro H5 h5
      have kn := kn.stL 0 rfl h5
      refine hnr _ _ ⟨_, [(z, .vec 1 (ysR rows.length (ys ++ [y])))], y, .mk (n := (ysR rows.length ys).length + 1) z 1 _ (by simp [ysR_len]), ?_, by simp [lk, l1], by simp [lk, l3], by simp [lk, l18], by simp [lk, l19]⟩
      rw [ysR_snoc]
      exact kn
     refine c_as ?_
     refine s_reg ?_
     have hx3 := kn.l 0 rfl
     simp only [go_sem, hx3, hlt, boolsOf_len, inL_len, boolsOf_getD _ _ hlti, inL_getD hlt]
     refine c_seq (c_cond rfl ?_ ?_)
     ·intro hin
      refine s_reg ?_
      simp only [go_sem]
      refine reachedWithout_c (hg.grd _ _) hf hn hg.m fun H3 hu => ?_
      have kn := kn.call0 hu
      simp only [go_sem, s_im_domsOf_i5]
      refine s_reg ?_
      have hy := kn.l 1 rfl
      simp only [go_sem, hy, boolsOf_len, List.length_replicate, Nat.zero_add, Nat.le_refl]
      intro _
      refine c_block (c_loop (fun m e1 H1 => ∃ b : Nat, m = rows.length - b ∧ b ≤ rows.length ∧
       Kn H H1 [] ([(x3, .st [.int .i64 p, .int .i64 rg, .sl fl 5 rows, oc, .sl false 1 (boolsOf (inL rows.length (nxN nx)))])] ++ ([(y, .vec 1 (boolsOf ((List.range b).map (domB (nxN nx) ys.length) ++ List.replicate (rows.length - b) false)))] ++ (ysL rows.length (nxN nx) ys ++ Lg))) ∧
       e1 = [(1, .c (.pp [.int .i64 p, .int .i64 rg, .sl fl 5 rows])), (3, .c (.ptr x3 0)), (5, .c (.vsl y 1 0 rows.length)), (6, .c (.sl false 1 (boolsOf ((List.range rows.length).map (rchB (nxN nx) ys.length))))), (18, .c (.int .i64 rows.length)), (19, .c (.int .i64 ys.length)), (37, .c (.int .i64 rows.length)), (38, .c (.int .i64 b))]) rows.length ?_ ?_)
      ·exact ⟨0, by omega, by omega, by simpa using kn, rfl⟩
      ·rintro m2 e1 H4 ⟨b, hm2, hb, kn, rfl⟩
       have hx3 := kn.l 0 rfl
       have hy := kn.l 1 rfl
       have hyl : ((List.range b).map (domB (nxN nx) ys.length) ++ List.replicate (rows.length - b) false).length = rows.length := by simp; omega
       refine s_reg ?_
       simp only [go_sem]
       refine c_seq (c_cond rfl ?_ ?_)
       ·intro hc2
        have hbl : b < rows.length := by simpa using hc2
        have hbi : b < (inL rows.length (nxN nx)).length := by rw [inL_len]; exact hbl
        have hbr : b < ((List.range rows.length).map (rchB (nxN nx) ys.length)).length := by simpa using hbl
        have hby : b < ((List.range b).map (domB (nxN nx) ys.length) ++ List.replicate (rows.length - b) false).length := by rw [hyl]; exact hbl
        refine c_skip ?_
        simp only [go_sem]
        refine c_seq (c_block ?_)
        refine s_reg ?_
        simp only [go_sem]
        refine c_reg ?_
        simp only [go_sem, hx3, hy, hbl, boolsOf_len, hyl, inL_len, List.length_map, List.length_range, boolsOf_getD _ _ hbi, inL_getD hbl, boolsOf_getD _ _ hbr, map_range_getD _ _ hbl, boolsOf_getD _ _ hby, boolsOf_set, Nat.zero_add, Nat.le_refl]
        intro H5 h5
        have kn := kn.stL 1 rfl h5
        refine c_reg ?_
        simp only [go_sem, X.next]
        refine ⟨inR64 (by omega) (by omega), rows.length - (b + 1), by omega, b + 1, rfl, by omega, ?_, rfl⟩
        rw [← map_take_set _ _ hbl]
        have : domB (nxN nx) ys.length b = (bif rchB (nxN nx) (-1) b then !rchB (nxN nx) (↑ys.length) b else false) := by
         simp only [domB, hin, Bool.true_and]
         cases rchB (nxN nx) (-1) b <;> rfl
        rw [this]
        exact kn
       ·intro hc2
        have hbe : b = rows.length := by have : ¬ b < rows.length := (by simpa using hc2); omega
        subst hbe
        refine c_exit ?_
        simp only [go_sem, X.next]
        refine tail _ _ rfl rfl rfl rfl rfl ?_
        simpa [domRow] using kn
     ·intro hin
      refine c_skip ?_
      simp only [go_sem]
      refine tail _ _ rfl rfl rfl rfl rfl ?_
      have : domRow rows.length (nxN nx) ys.length = List.replicate rows.length false := by
       refine List.ext_getElem (by simp [domRow]) fun i h1 h2 => ?_
       simp [domRow, domB, hin]
      rw [this]; exact kn
    ·rintro e2 H2 ⟨oc2, Lg2, y, hgr, kn, l1, l3, l18, l19⟩
     refine c_reg ?_
     simp only [go_sem, X.next, l1, l3, l18, l19]
     exact ⟨inR64 (by omega) (by omega), rows.length - (ys.length + 1), by omega, ys ++ [y], oc2, Lg2, by simp, by simp; omega, hgr, kn, by simp⟩
   ·intro hc
    have hge : ys.length = rows.length := by have : ¬ ys.length < rows.length := (by simpa using hc); omega
    refine c_exit ?_
    simp only [go_sem, X.next]
    refine s_reg ?_
    simp only [go_sem]
    refine c_ret ?_
    simp only [go_sem, endQ, retT, r_im_domsOf, List.mem_singleton, forall_eq, RS.op]
    have hfr := ys_frz' (H := H1) (S := un H) (n := rows.length) (g := nxN nx) ys (fun q hq => ⟨(kn.get q (by simp [hq])).1, un_free (kn.loc q (by simp [hq]))⟩)
    rw [hge] at hfr
    refine ⟨_, .c _ _ (FrzL.ptr (kn.un 0 rfl) hx3 ?_), hK hf _ kn.fin⟩
    exact .cons (frzc_same rfl) (.cons (frzc_same rfl) (.cons (.same _ rfl) (.cons (hgr.frzR kn hfr) (.cons (.same _ rfl) .nil))))
end Go.AE.Y

namespace Go.AE.Y
open Go.Proofs.Tryz
variable {H H0 : Heap} {K : V → Heap → Prop}
theorem predsOf_nat {n : Nat} {nx : Nat → List Int} (hf : fitsB n nx = true) (h : Nat) : predsOf nx (h : Int) n = (predL n (nxN nx) h).map Int.ofNat := by
 simp only [predsOf, predL]
 congr 1
 refine List.filter_congr fun i hi => ?_
 have hi := List.mem_range.1 hi
 by_cases hm : (h : Int) ∈ nx i
 ·rw [List.contains_iff_mem.2 hm]
  have : h ∈ nxN nx i := List.mem_map.2 ⟨(h : Int), hm, by simp⟩
  simp [this]
 ·have h1 : (nx i).contains (h : Int) = false := by
   cases hc : (nx i).contains (h : Int) with
   | false => rfl
   | true => exact absurd (List.contains_iff_mem.1 hc) hm
  rw [h1]
  have : h ∉ nxN nx i := fun hh => by
   obtain ⟨y, hy, he⟩ := List.mem_map.1 hh
   have := fitsB_mem hf hi hy
   have e : y = (h : Int) := by omega
   exact hm (e ▸ hy)
  simp [this]
theorem predsIn_nat {n : Nat} {nx : Nat → List Int} (hf : fitsB n nx = true) {h : Nat} (hh : h < n) : predsIn nx (h : Int) n = (predL n (nxN nx) h).map Int.ofNat := by
 have h1 : (decide ((0 : Int) ≤ (h : Int)) && decide ((h : Int) ≤ (n : Int) - 1)) = true := by simp; omega
 rw [predsIn, h1, if_pos rfl, predsOf_nat hf]
theorem headF_succ (n : Nat) (g : Nat → List Nat) (i : Nat) : (List.range (i + 1)).filter (headB n g) = (List.range i).filter (headB n g) ++ if headB n g i then [i] else [] := by
 rw [List.range_succ, List.filter_append]
 congr 1
 cases h : headB n g i <;> simp [h]
set_option maxHeartbeats 2000000 in
theorem heads_c {p rg : Int} {fl : Bool} {rows : List (List C)} {nx : Nat → List Int} (hg : GF rows nx) (hf : fitsB rows.length nx = true)
  (hK : ∀ H', Upd H H' [] → K (.c (.sl false 1 (natsOf (headL rows.length (nxN nx))))) H') :
  ACall prog fn_im_doms_heads [.c (.pp (domC p rg fl rows (nxN nx)))] H K := by
 have hn := hg.n
 refine acall_un ?_
 refine call_sound hmix m_im_doms_heads ?_
 refine s_reg ?_
 simp only [go_sem]
 refine s_reg ?_
 simp only [go_sem]
 refine c_as ?_
 refine s_reg ?_
 simp only [go_sem, domC, boolsOf_len, inL_len]
 intro _
 refine c_seq (c_block (c_loop (fun m e1 H1 => ∃ (i : Nat) (oc : C) (Lg : List (Nat × Obj)), m = rows.length - i ∧ i ≤ rows.length ∧ Gr Lg 1 (natsOf ((List.range i).filter (headB rows.length (nxN nx)))) oc ∧
  Kn H H1 [] ([] ++ Lg) ∧ e1 = [(1, .c (.pp [.pp (domC p rg fl rows (nxN nx))])), (3, .c oc), (9, .c (.int .i64 rows.length)), (10, .c (.int .i64 i))]) rows.length ?_ ?_))
 ·exact ⟨0, _, [], by omega, by omega, .nil 1, Kn.start0 H, rfl⟩
 ·rintro m e1 H1 ⟨i, oc, Lg, hm, hi, hgr, kn, rfl⟩
  have hoc := hgr.isOw
  refine s_reg ?_
  simp only [go_sem, hoc]
  refine c_seq (c_cond rfl ?_ ?_)
  ·intro hc
   have hlt : i < rows.length := by simpa using hc
   refine c_skip ?_
   simp only [go_sem]
   refine c_cut (fun e2 H2 => ∃ (oc : C) (Lg : List (Nat × Obj)), Gr Lg 1 (natsOf ((List.range (i + 1)).filter (headB rows.length (nxN nx)))) oc ∧ Kn H H2 [] ([] ++ Lg) ∧
    lk 1 e2 = .c (.pp [.pp (domC p rg fl rows (nxN nx))]) ∧ lk 3 e2 = .c oc ∧ lk 9 e2 = .c (.int .i64 rows.length) ∧ lk 10 e2 = .c (.int .i64 i)) ?_ ?_
   ·intro Q hnr _ _
    refine c_block ?_
    refine s_reg ?_
    simp only [go_sem, hoc]
    intro x hx H2 h2
    have kn := (kn.al hx h2).perm List.perm_append_comm
    have hx2 := kn.l 0 rfl
    simp only [go_sem, s_im_doms_heads_i0, hx2]
    intro H3 h3
    have kn : Kn H H3 [] ([(x, .st [.int .i64 i])] ++ Lg) := kn.stL 0 rfl h3
    have hx3 := kn.l 0 rfl
    refine s_dreg ?_
    simp only [go_sem, hx3, hoc, domC]
    refine PredsOf_c (hg.grd _ _) fun fl' H4 hu => ?_
    have kn := kn.call0 hu
    have hx4 := kn.l 0 rfl
    rw [predsIn_nat hf hlt]
    simp only [go_sem, s_im_doms_heads_i1]
    refine ContainsFunc_c (ns := (predL rows.length (nxN nx) i).map Int.ofNat) (p := fun q => domB (nxN nx) i q.toNat) (.mk' _ _ _ _) rfl (fun q K' hq hK' => ?_) ?_
    ·obtain ⟨q, hq2, rfl⟩ := List.mem_map.1 hq
     have hql := (predL_mem.1 hq2).1
     refine call_sound hmix m_im_doms_heads_c1 ?_
     refine s_reg ?_
     simp only [go_sem, List.cons_append, List.nil_append, List.map_cons, List.map_nil]
     refine s_reg ?_
     simp only [go_sem, hx4]
     refine dominates_c (p := p) (rg := rg) (fl := fl) (rows := rows) (g := nxN nx) (a := i) (b := q) hlt hql ?_
     simp only [go_sem, s_im_doms_heads_c1_i0]
     refine c_ret ?_
     simp only [go_sem, endQ, retT, r_im_doms_heads_c1, List.mem_singleton, forall_eq, RS.op]
     exact hK'
    ·have hany : (((predL rows.length (nxN nx) i).map Int.ofNat).any fun q => domB (nxN nx) i q.toNat) = headB rows.length (nxN nx) i := by
      simp only [headB, List.any_map, Function.comp_def]; rfl
     rw [hany]
     refine c_cond rfl ?_ ?_
     ·intro hh
      have hll := List.length_filter_le (headB rows.length (nxN nx)) (List.range i)
      rw [List.length_range] at hll
      refine c_reg ?_
      simp only [go_sem, hx4, hoc]
      refine kn.growR (B := [_]) (new := natsOf [i]) hgr (.mk' _ _ _ _) (natsOf_noOw _) (by simp only [natsOf_len, LIM, List.length_cons, List.length_nil]; omega) fun t Lg' H5 hgr ht kn => ?_
      simp only [go_sem, s_im_doms_heads_i2]
      refine hnr _ _ ⟨t, Lg', ?_, (kn.perm List.perm_append_comm).drop, rfl, rfl, rfl, rfl⟩
      rw [headF_succ, hh, if_pos rfl, natsOf_app]; exact hgr
     ·intro hh
      refine c_skip ?_
      simp only [go_sem]
      refine hnr _ _ ⟨oc, Lg, ?_, (kn.perm List.perm_append_comm).drop, rfl, rfl, rfl, rfl⟩
      rw [headF_succ, hh]; simpa using hgr
   ·rintro e2 H2 ⟨oc2, Lg2, hgr, kn, l1, l3, l9, l10⟩
    refine c_reg ?_
    simp only [go_sem, X.next, l1, l3, l9, l10]
    exact ⟨inR64 (by omega) (by omega), rows.length - (i + 1), by omega, i + 1, oc2, Lg2, rfl, by omega, hgr, kn, rfl⟩
  ·intro hc
   have hge : i = rows.length := by have : ¬ i < rows.length := (by simpa using hc); omega
   subst hge
   refine c_exit ?_
   simp only [go_sem, X.next]
   refine s_reg ?_
   simp only [go_sem, hoc]
   refine c_ret ?_
   simp only [go_sem, endQ, retT, r_im_doms_heads, List.mem_singleton, forall_eq, RS.op, hoc]
   exact ⟨_, .c _ _ (hgr.frz kn (natsOf_noOw _)), hK _ kn.fin⟩
end Go.AE.Y

namespace Go.AE.Y
variable {P : Program} {H : Heap} {g : G} {w : World}
theorem stp_grow (hs : Sat H g w) (os : Array Go.Obj) : ∃ g', Stp H g w H g' (Go.Sort.grow w os) := by
 obtain ⟨l⟩ := os
 induction l generalizing g w with
 | nil => exact ⟨g, by rw [Go.Sort.grow_empty]; exact .refl hs⟩
 | cons x l ih =>
  have h1 := stp_newPer hs x
  obtain ⟨g', h2⟩ := ih h1.sat
  refine ⟨g', ?_⟩
  have e : Go.Sort.grow w ⟨x :: l⟩ = Go.Sort.grow (w.alloc x) ⟨l⟩ := by
   rw [Go.Sort.alloc_eq_grow, Go.Sort.grow_grow]
   congr 1
   simp
  rw [e]; exact h1.trans h2
theorem putRow_eq {b off : Nat} {cs : Array Value} {T : TypeId} {d : Array Int} (h : w.heap[b]? = some (.cells cs T (0, 0))) :
  Go.Sort.putRow (Value.int .i64) w b off d = World.putCells w b (Go.Sort.putCells (Value.int .i64) off d cs) T := by
 simp only [Go.Sort.putRow, Go.Sort.mapBlock, World.putCells]
 congr 1
 apply Array.ext_getElem?
 intro i
 simp only [Array.getElem?_modify]
 by_cases hi : b = i
 ·subst hi
  have hlt : b < w.heap.size := block_lt h
  rw [if_pos rfl, h]
  simp [hlt, Go.Sort.onCells]
 ·rw [if_neg hi, Array.getElem?_setIfInBounds_ne hi]
theorem acall_sort {f : Nat} (hf : fnOk P f = true)
  (hc : ∀ (blk off cap : Nat) (zs : List Int) (w : World), Go.Sort.Holds (Value.int .i64) w blk off zs.toArray → blk < w.heap.size → zs.length < 4611686018427387904 →
   Calls P f #[.slice (some ⟨blk, off, none⟩) zs.length cap] w fun e w' =>
    e = .returned (.tuple #[]) ∧ ∃ n os, w' = Go.Sort.grow (Go.Sort.putRow (Value.int .i64) (Go.Sort.ahead w n) blk off (zs.mergeSort fun x y => decide (x ≤ y)).toArray) os)
  {z n : Nat} {ns : List Int} {K : V → Heap → Prop} (hz : H z = .vec 1 (intsOf ns)) (hn : n = ns.length) (h0 : 0 < n)
  (hK : ∀ H', Upd H H' [(z, .vec 1 (intsOf (ns.mergeSort fun x y => decide (x ≤ y))))] → K (.tup []) H') : ACall P f [.c (.vsl z 1 0 n)] H K := by
 refine ⟨hf, fun g w vs hs hl hv => ?_⟩
 obtain ⟨v, rfl⟩ : ∃ v, vs = [v] := by
  match vs, hl with
  | [v], _ => exact ⟨v, rfl⟩
 have hr := hv 0 _ v rfl rfl
 have ho := hs.objs z
 rw [hz] at ho
 cases hr with
 | c _ _ hr =>
  cases hr with
  | vslnil => omega
  | vsl l sz st n cap b base T m hio hnc hsh hm =>
   obtain ⟨b', base', T', cs, val, hio', hown, hblk, hsz, hlim, hrow, hcell, hrep⟩ := SatVec.of ho hio
   rw [hio] at hio'
   simp only [Option.some.injEq, Prod.mk.injEq, true_and] at hio'
   obtain ⟨rfl, rfl⟩ := hio'
   have hlt := block_lt hblk
   rw [intsOf_len] at hsz hlim
   have hel : ∀ j (hj : j < ns.length), cs[base + j]? = some (.int .i64 ns[j]) := by
    intro j hj
    have h1 : (intsOf ns)[j]? = some [.int .i64 ns[j]] := by simp [intsOf, hj]
    have h2 := hcell j _ 0 _ h1 rfl
    have h3 := hrep j _ 0 _ h1 rfl
    have h4 : val j 0 = .int .i64 ns[j] := by
     exact (fun vv (h : RepC w g (.int .i64 ns[j]) vv) => by cases h; rfl : ∀ vv, RepC w g (.int .i64 ns[j]) vv → vv = .int .i64 ns[j]) _ (h3.toC rfl)
    simpa [h4] using h2
   have hH : Go.Sort.Holds (Value.int .i64) w b base ns.toArray := by
    intro j hj
    have hj' : j < ns.length := by simpa using hj
    refine ⟨?_, ?_⟩
    ·rw [cell?_cells hblk, hel j hj']
     simp [getElem!_pos, hj']
    ·simp [World.frozen?, hblk]
   subst hn
   simp only [Nat.zero_mul, Nat.add_zero]
   refine (hc b base cap ns w hH hlt (by simp only [LIM] at hlim; omega)).mono fun e w' => ?_
   rintro ⟨rfl, nn, os, rfl⟩
   have s1 : Stp H g w H g (Go.Sort.ahead w nn) := stp_drawn hs (w.drawn + nn)
   have hblk1 : (Go.Sort.ahead w nn).heap[b]? = some (.cells cs T' (0, 0)) := hblk
   have hel2 : ∀ i (c : C), ((intsOf (ns.mergeSort fun x y => decide (x ≤ y)))[i]? = some [c]) → ∃ x : Int, c = .int .i64 x ∧ (Go.Sort.putCells (Value.int .i64) base (ns.mergeSort fun x y => decide (x ≤ y)).toArray cs)[base + i]? = some (.int .i64 x) := by
    intro i c hi
    have hlen : (ns.mergeSort fun x y => decide (x ≤ y)).length = ns.length := List.length_mergeSort _
    have hil : i < (ns.mergeSort fun x y => decide (x ≤ y)).length := by
     rcases Nat.lt_or_ge i (ns.mergeSort fun x y => decide (x ≤ y)).length with h | h
     ·exact h
     ·rw [List.getElem?_eq_none (by rw [intsOf_len]; exact h)] at hi; simp at hi
    refine ⟨(ns.mergeSort fun x y => decide (x ≤ y))[i], ?_, ?_⟩
    ·simp only [intsOf, List.getElem?_map, List.getElem?_eq_getElem hil, Option.map_some, Option.some.injEq, List.cons.injEq, and_true] at hi
     exact hi.symm
    ·simp only [Go.Sort.putCells, Array.getElem?_mapIdx]
     rw [Array.getElem?_eq_getElem (by omega)]
     simp only [Option.map_some, Option.some.injEq]
     rw [if_pos ⟨by omega, by simp only [List.size_toArray]; omega⟩]
     congr 1
     simp [getElem!_pos]
     rw [List.getElem?_eq_getElem hil]; rfl
   have s2 := putCells_stp s1.sat hown hblk1 (cs' := Go.Sort.putCells (Value.int .i64) base (ns.mergeSort fun x y => decide (x ≤ y)).toArray cs) (by simp [Go.Sort.putCells])
    (.vec 1 (intsOf (ns.mergeSort fun x y => decide (x ≤ y)))) (by rw [hz]; simp) (fun hle hb2 => .inr ⟨b, base, T', _, fun i _ => .int .i64 ((ns.mergeSort fun x y => decide (x ≤ y)).getD i 0), hio, hown, hb2, by
      rw [intsOf_len, List.length_mergeSort]; simp [Go.Sort.putCells]; omega, by rw [intsOf_len, List.length_mergeSort]; exact hlim, fun i row hi => by
       simp only [intsOf, List.getElem?_map, Option.map_eq_some_iff] at hi; obtain ⟨x, _, rfl⟩ := hi; rfl, fun i row j c hi hj => by
       have hi' := hi
       simp only [intsOf, List.getElem?_map, Option.map_eq_some_iff] at hi'
       obtain ⟨y, hy, rfl⟩ := hi'
       have hj0 : j = 0 := by
        rcases Nat.eq_zero_or_pos j with h | h
        ·exact h
        ·rw [List.getElem?_eq_none (by simp; omega)] at hj; simp at hj
       subst hj0
       obtain ⟨x, hx, he⟩ := hel2 i _ hi
       simp only [C.int.injEq, true_and] at hx
       subst hx
       simp only [Nat.mul_one, Nat.add_zero]
       rw [he, List.getD_eq_getElem?_getD, hy]; rfl, fun i row j c hi hj => by
       have hi' := hi
       simp only [intsOf, List.getElem?_map, Option.map_eq_some_iff] at hi'
       obtain ⟨y, hy, rfl⟩ := hi'
       have hj0 : j = 0 := by
        rcases Nat.eq_zero_or_pos j with h | h
        ·exact h
        ·rw [List.getElem?_eq_none (by simp; omega)] at hj; simp at hj
       subst hj0
       simp at hj; subst hj
       show RepO _ _ _ _ _ (Value.int .i64 ((ns.mergeSort fun x y => decide (x ≤ y)).getD i 0))
       rw [List.getD_eq_getElem?_getD, hy]
       exact .plain _ _ _ _ (.int _ _)⟩) (by simp)
   rw [← putRow_eq hblk1] at s2
   obtain ⟨g', s3⟩ := stp_grow s2.sat os
   refine ⟨.tuple #[], .tup [], _, g', rfl, hK _ ⟨by simp [Heap.set_same], fun m _ hm => Heap.set_other _ _ (by simpa using hm)⟩, s1.trans (s2.trans s3), ?_⟩
   exact .tup [] [] rfl (by simp)
theorem acall_int {f : Nat} (hf : fnOk P f = true) {k : IntKind} {x r : Int} (hc : ∀ w, Calls P f #[.int k x] w fun e w' => e = .returned (.int .i64 r) ∧ w' = w) {K : V → Heap → Prop} (hK : K (.c (.int .i64 r)) H) :
  ACall P f [.c (.int k x)] H K := by
 refine ⟨hf, fun g w vs hs hl hv => ?_⟩
 obtain ⟨v, rfl⟩ : ∃ v, vs = [v] := by
  match vs, hl with
  | [v], _ => exact ⟨v, rfl⟩
 have hr := hv 0 _ v rfl rfl
 cases hr with
 | c _ _ hr =>
  cases hr
  refine (hc w).mono fun e w' => ?_
  rintro ⟨rfl, rfl⟩
  exact ⟨_, _, H, g, rfl, hK, .refl hs, .c _ _ (.int _ _)⟩
end Go.AE.Y

namespace Go.AE.Y
structure Cmp (ns R : List Int) (k j : Nat) : Prop where
 len : R.length = ns.length
 kj : k < j
 jn : j ≤ ns.length
 asc : (R.take k).Pairwise (· < ·)
 mem : ∀ x, x ∈ R.take k ↔ x ∈ ns.take j
 same : ∀ i, j ≤ i + 1 → R.getD i 0 = ns.getD i 0
variable {ns R : List Int} {k j : Nat}
theorem take_mem {l : List Int} {j : Nat} {x : Int} : x ∈ l.take j ↔ ∃ i, i < j ∧ i < l.length ∧ l.getD i 0 = x := by
 constructor
 ·intro h
  obtain ⟨i, hi, rfl⟩ := List.mem_iff_getElem.1 h
  rw [List.length_take] at hi
  refine ⟨i, by omega, by omega, ?_⟩
  rw [List.getElem_take, List.getD_eq_getElem?_getD, List.getElem?_eq_getElem (by omega)]; rfl
 ·rintro ⟨i, h1, h2, rfl⟩
  rw [List.getD_eq_getElem?_getD, List.getElem?_eq_getElem h2]
  exact List.mem_iff_getElem.2 ⟨i, by rw [List.length_take]; omega, by rw [List.getElem_take]; rfl⟩
theorem sorted_getD {ns : List Int} (h : ns.Pairwise (· ≤ ·)) {a b : Nat} (hab : a ≤ b) (hb : b < ns.length) : ns.getD a 0 ≤ ns.getD b 0 := by
 rcases Nat.lt_or_ge a b with h1 | h1
 ·have := List.pairwise_iff_getElem.1 h a b (by omega) hb h1
  simpa [List.getD_eq_getElem?_getD, hb, show a < ns.length by omega] using this
 ·have : a = b := by omega
  subst this; exact Int.le_refl _
theorem Cmp.start (hs : ns.Pairwise (· ≤ ·)) (hk0 : 0 < k) (hk : k < ns.length) (hne : ∀ i, 0 < i → i < k → ns.getD i 0 ≠ ns.getD (i - 1) 0) (he : ns.getD k 0 = ns.getD (k - 1) 0) : Cmp ns ns k (k + 1) := by
 refine ⟨rfl, by omega, by omega, ?_, fun x => ?_, fun i _ => rfl⟩
 ·rw [List.pairwise_iff_getElem]
  intro a b ha hb hab
  rw [List.length_take] at ha hb
  rw [List.getElem_take, List.getElem_take]
  have h1 := sorted_getD hs (a := a) (b := b - 1) (by omega) (by omega)
  have h2 := sorted_getD hs (a := b - 1) (b := b) (by omega) (by omega)
  have h3 := hne b (by omega) (by omega)
  have e1 : ns.getD a 0 = ns[a] := by simp [List.getD_eq_getElem?_getD, show a < ns.length by omega]
  have e2 : ns.getD b 0 = ns[b] := by simp [List.getD_eq_getElem?_getD, show b < ns.length by omega]
  rw [e1] at h1; rw [e2] at h2 h3
  omega
 ·rw [take_mem, take_mem]
  constructor
  ·rintro ⟨i, h1, h2, h3⟩; exact ⟨i, by omega, h2, h3⟩
  ·rintro ⟨i, h1, h2, h3⟩
   by_cases h : i < k
   ·exact ⟨i, h, h2, h3⟩
   ·have : i = k := by omega
    subst this
    exact ⟨i - 1, by omega, by omega, by rw [← he]; exact h3⟩
theorem Cmp.eq (c : Cmp ns R k j) (hj : j < ns.length) (he : ns.getD j 0 = ns.getD (j - 1) 0) : Cmp ns R k (j + 1) := by
 have := c.kj
 refine ⟨c.len, by omega, by omega, c.asc, fun x => ?_, fun i hi => c.same i (by omega)⟩
 rw [c.mem, take_mem, take_mem]
 constructor
 ·rintro ⟨i, h1, h2, h3⟩; exact ⟨i, by omega, h2, h3⟩
 ·rintro ⟨i, h1, h2, h3⟩
  by_cases h : i < j
  ·exact ⟨i, h, h2, h3⟩
  ·have : i = j := by omega
   subst this
   exact ⟨i - 1, by omega, by omega, by rw [← he]; exact h3⟩
theorem Cmp.ne (c : Cmp ns R k j) (hs : ns.Pairwise (· ≤ ·)) (hj : j < ns.length) (he : ns.getD j 0 ≠ ns.getD (j - 1) 0) : Cmp ns (R.set k (ns.getD j 0)) (k + 1) (j + 1) := by
 have hkj := c.kj
 have hkl : k < R.length := by rw [c.len]; omega
 have htk : (R.set k (ns.getD j 0)).take (k + 1) = R.take k ++ [ns.getD j 0] := by
  rw [List.take_succ_eq_append_getElem (by rw [List.length_set]; exact hkl), List.getElem_set_self]
  congr 1
  rw [List.take_set_of_le (Nat.le_refl _)]
 refine ⟨by rw [List.length_set]; exact c.len, by omega, by omega, ?_, fun x => ?_, fun i hi => ?_⟩
 ·rw [htk, List.pairwise_append]
  refine ⟨c.asc, by simp, fun a ha b hb => ?_⟩
  simp at hb; subst hb
  obtain ⟨i, h1, h2, rfl⟩ := take_mem.1 ((c.mem a).1 ha)
  have h3 := sorted_getD hs (a := i) (b := j - 1) (by omega) (by omega)
  have h4 := sorted_getD hs (a := j - 1) (b := j) (by omega) hj
  simp only [List.getD_eq_getElem?_getD] at *
  omega
 ·rw [htk, List.mem_append, c.mem, take_mem, take_mem]
  simp only [List.mem_singleton]
  constructor
  ·rintro (⟨i, h1, h2, h3⟩ | rfl)
   ·exact ⟨i, by omega, h2, h3⟩
   ·exact ⟨j, by omega, hj, rfl⟩
  ·rintro ⟨i, h1, h2, h3⟩
   by_cases h : i < j
   ·exact .inl ⟨i, h, h2, h3⟩
   ·have : i = j := by omega
    subst this; exact .inr h3.symm
 ·have : k ≠ i := by omega
  rw [← c.same i (by omega)]
  simp [List.getD_eq_getElem?_getD, this]
theorem asc_of_ne (hs : ns.Pairwise (· ≤ ·)) (hne : ∀ i, 0 < i → i < ns.length → ns.getD i 0 ≠ ns.getD (i - 1) 0) : ns.Pairwise (· < ·) := by
 rw [List.pairwise_iff_getElem]
 intro a b ha hb hab
 have h1 := sorted_getD hs (a := a) (b := b - 1) (by omega) (by omega)
 have h2 := sorted_getD hs (a := b - 1) (b := b) (by omega) (by omega)
 have h3 := hne b (by omega) (by omega)
 have e1 : ns.getD a 0 = ns[a] := by simp [List.getD_eq_getElem?_getD, ha]
 have e2 : ns.getD b 0 = ns[b] := by simp [List.getD_eq_getElem?_getD, hb]
 rw [e1] at h1; rw [e2] at h2 h3
 omega
def srt (ns : List Int) : List Int := ns.mergeSort fun x y => decide (x ≤ y)
theorem srt_len (ns : List Int) : (srt ns).length = ns.length := List.length_mergeSort _
theorem srt_mem (ns : List Int) (x : Int) : x ∈ srt ns ↔ x ∈ ns := (List.mergeSort_perm ns _).mem_iff
theorem srt_sorted (ns : List Int) : (srt ns).Pairwise (· ≤ ·) := by
 have := List.pairwise_mergeSort (le := fun x y : Int => decide (x ≤ y)) (by simp only [decide_eq_true_eq]; omega) (by simp only [Bool.or_eq_true, decide_eq_true_eq]; omega) ns
 exact this.imp (by simp)
theorem srt_nodup {ns : List Int} (h : ns.Nodup) : (srt ns).Pairwise (· < ·) := by
 have h1 := srt_sorted ns
 have h2 : (srt ns).Nodup := (List.mergeSort_perm ns _).nodup_iff.2 h
 exact h1.imp₂ (fun a b hab hne => by omega) h2
end Go.AE.Y

namespace Go.Proofs
open Go.Shelf
def Tryz.lays189_ren : Go.Shelf.Ren := ⟨fun | 189 => 135 | 125 => 168 | 257 => 167 | 128 => 196 | 129 => 197 | 294 => 187 | 295 => 188 | 296 => 189 | 297 => 190 | 298 => 191 | 299 => 192 | 216 => 193 | 300 => 194 | 301 => 195 | 328 => 209 | 329 => 210 | 330 => 211 | 331 => 212 | 332 => 213 | 215 => 214 | 343 => 229 | n => n, fun | 28 => 28 | 3 => 3 | 46 => 152 | 0 => 0 | 51 => 174 | 53 => 176 | 4 => 4 | 183 => 167 | 182 => 166 | 131 => 171 | 5 => 5 | 9 => 9 | 218 => 197 | 222 => 201 | 228 => 221 | 229 => 222 | n => n, fun | n => n⟩
theorem Tryz.lays189 : Go.Proofs.Lays.n189 Tryz.prog Tryz.lays189_ren := {
 mixed := by kernel_rfl
 f125 := Tryz.func168.trans (congrArg some (by kernel_rfl))
 f128 := Tryz.func196.trans (congrArg some (by kernel_rfl))
 f129 := Tryz.func197.trans (congrArg some (by kernel_rfl))
 f189 := Tryz.func135.trans (congrArg some (by kernel_rfl))
 f215 := Tryz.func214.trans (congrArg some (by kernel_rfl))
 f216 := Tryz.func193.trans (congrArg some (by kernel_rfl))
 f257 := Tryz.func167.trans (congrArg some (by kernel_rfl))
 f294 := Tryz.func187.trans (congrArg some (by kernel_rfl))
 f295 := Tryz.func188.trans (congrArg some (by kernel_rfl))
 f296 := Tryz.func189.trans (congrArg some (by kernel_rfl))
 f297 := Tryz.func190.trans (congrArg some (by kernel_rfl))
 f298 := Tryz.func191.trans (congrArg some (by kernel_rfl))
 f299 := Tryz.func192.trans (congrArg some (by kernel_rfl))
 f300 := Tryz.func194.trans (congrArg some (by kernel_rfl))
 f301 := Tryz.func195.trans (congrArg some (by kernel_rfl))
 f328 := Tryz.func209.trans (congrArg some (by kernel_rfl))
 f329 := Tryz.func210.trans (congrArg some (by kernel_rfl))
 f330 := Tryz.func211.trans (congrArg some (by kernel_rfl))
 f331 := Tryz.func212.trans (congrArg some (by kernel_rfl))
 f332 := Tryz.func213.trans (congrArg some (by kernel_rfl))
 f343 := Tryz.func229.trans (congrArg some (by kernel_rfl))
 t0 := Tryz.underlying0
 a0 := Tryz.isAgg0
 z0 := Tryz.sizeOf0
 v0 := Tryz.zeroValue0
 t3 := Tryz.underlying3
 a3 := Tryz.isAgg3
 z3 := Tryz.sizeOf3
 v3 := Tryz.zeroValue3
 t4 := Tryz.underlying4
 a4 := Tryz.isAgg4
 z4 := Tryz.sizeOf4
 v4 := Tryz.zeroValue4
 t5 := Tryz.underlying5
 a5 := Tryz.isAgg5
 z5 := Tryz.sizeOf5
 v5 := Tryz.zeroValue5
 t9 := Tryz.underlying9
 a9 := Tryz.isAgg9
 z9 := Tryz.sizeOf9
 v9 := Tryz.zeroValue9
 t28 := Tryz.underlying28
 a28 := Tryz.isAgg28
 z28 := Tryz.sizeOf28
 v28 := Tryz.zeroValue28
 t46 := Tryz.underlying152
 a46 := Tryz.isAgg152
 z46 := Tryz.sizeOf152
 v46 := Tryz.zeroValue152
 t51 := Tryz.underlying174
 a51 := Tryz.isAgg174
 z51 := Tryz.sizeOf174
 v51 := Tryz.zeroValue174
 t53 := Tryz.underlying176
 a53 := Tryz.isAgg176
 z53 := Tryz.sizeOf176
 v53 := Tryz.zeroValue176
 t131 := Tryz.underlying171
 a131 := Tryz.isAgg171
 z131 := Tryz.sizeOf171
 v131 := Tryz.zeroValue171
 t182 := Tryz.underlying166
 a182 := Tryz.isAgg166
 z182 := Tryz.sizeOf166
 v182 := Tryz.zeroValue166
 t183 := Tryz.underlying167
 a183 := Tryz.isAgg167
 z183 := Tryz.sizeOf167
 v183 := Tryz.zeroValue167
 t218 := Tryz.underlying197
 a218 := Tryz.isAgg197
 z218 := Tryz.sizeOf197
 v218 := Tryz.zeroValue197
 t222 := Tryz.underlying201
 a222 := Tryz.isAgg201
 z222 := Tryz.sizeOf201
 v222 := Tryz.zeroValue201
 t228 := Tryz.underlying221
 a228 := Tryz.isAgg221
 z228 := Tryz.sizeOf221
 v228 := Tryz.zeroValue221
 t229 := Tryz.underlying222
 a229 := Tryz.isAgg222
 z229 := Tryz.sizeOf222
 v229 := Tryz.zeroValue222 }
end Go.Proofs

namespace Go.AE.Y
open Go.Proofs.Tryz
variable {H H0 : Heap} {K : V → Heap → Prop} {E B Lg : List (Nat × Obj)}
theorem bitsLen_c {x : Int} (h0 : 0 ≤ x) (h1 : x ≤ 18446744073709551615) (hK : ∀ n : Int, K (.c (.int .i64 n)) H) : ACall prog fn_bits_Len [.c (.int .u64 x)] H K :=
 acall_int (by kernel_rfl) (fun w => calls_of_every_depth fun D => Go.Proofs.AnyS.bits_LenIn (ρ := lays189_ren) { lays189 with } D x w h0 h1) (hK _)
theorem ins0_c {c : C} (how : c.isOw = false) (hK : K (.tup []) H) : ACall prog fn_sl_insertionSortOrdered [.c c, .c (.int .i64 0), .c (.int .i64 0)] H K := by
 refine call_sound hmix m_sl_insertionSortOrdered ?_
 refine s_reg ?_
 simp only [go_sem, how]
 refine ⟨inR64 (by omega) (by omega), ?_⟩
 refine c_block (c_loop (fun m e1 H1 => H1 = H ∧ e1 = [(0, .c c), (1, .c (.int .i64 0)), (2, .c (.int .i64 0)), (6, .c (.int .i64 1))]) 0 ⟨rfl, rfl⟩ ?_)
 rintro m e1 H1 ⟨rfl, rfl⟩
 refine c_as ?_
 refine s_reg ?_
 simp only [go_sem, how]
 refine c_seq (c_cond rfl (fun h => by simp at h) fun _ => ?_)
 refine c_exit ?_
 simp only [go_sem, X.next, endQ, retT, r_sl_insertionSortOrdered, List.not_mem_nil]
 exact ⟨fun _ => trivial, hK⟩
theorem pdq0_c {c : C} {l : Int} (how : c.isOw = false) (hK : K (.tup []) H) : ACall prog fn_sl_pdqsortOrdered [.c c, .c (.int .i64 0), .c (.int .i64 0), .c (.int .i64 l)] H K := by
 refine call_sound hmix m_sl_pdqsortOrdered ?_
 refine s_reg ?_
 simp only [go_sem, how]
 refine s_reg ?_
 simp only [go_sem, how]
 refine c_block (c_loop (fun m e1 H1 => H1 = H ∧ e1 = [(0, .c c), (1, .c (.int .i64 0)), (2, .c (.int .i64 0)), (3, .c (.int .i64 l)), (8, .c (.bool true)), (9, .c (.bool true))]) 0 ⟨rfl, rfl⟩ ?_)
 rintro m e1 H1 ⟨rfl, rfl⟩
 refine c_block ?_
 refine s_reg ?_
 simp only [go_sem, how]
 refine ⟨inR64 (by omega) (by omega), ?_⟩
 refine c_as ?_
 refine s_reg ?_
 simp only [go_sem, how]
 refine c_seq (c_cond rfl (fun _ => ?_) (fun h => by simp at h))
 refine s_reg ?_
 simp only [go_sem, how]
 refine ins0_c how ?_
 refine c_ret ?_
 simp only [go_sem, X.next, endQ, retT, r_sl_pdqsortOrdered, List.not_mem_nil]
 exact ⟨fun _ => trivial, hK⟩
theorem Sort0_c {c : C} (hok : okSl H c) (hl : lenC c = 0) (how : c.isOw = false) (hK : K (.tup []) H) : ACall prog fn_sl_Sort [.c c] H K := by
 have hok := eq_true hok
 refine call_sound hmix m_sl_Sort ?_
 refine s_reg ?_
 simp only [go_sem, how, hok, hl]
 have e0 : ((0 : Nat) : Int) = 0 := rfl
 refine c_reg ?_
 simp only [go_sem, how, e0]
 refine ⟨⟨by decide, by decide⟩, ?_⟩
 refine bitsLen_c (by omega) (by omega) fun n => ?_
 simp only [go_sem, how, s_sl_Sort_i0]
 refine pdq0_c how ?_
 simp only [go_sem, endQ, retT, r_sl_Sort, List.not_mem_nil]
 exact ⟨fun _ => trivial, hK⟩
theorem Sort_c {c : C} {ns : List Int} (kn : Kn H0 H E (B ++ Lg)) (hgr : Gr Lg 1 (intsOf ns) c)
  (hK : ∀ Lg' H', Gr Lg' 1 (intsOf (srt ns)) c → Kn H0 H' E (B ++ Lg') → K (.tup []) H') : ACall prog fn_sl_Sort [.c c] H K := by
 by_cases h0 : ns = []
 ·subst h0
  refine Sort0_c (hgr.okSl kn) (by rw [hgr.lenC]; rfl) hgr.isOw (hK Lg H ?_ kn)
  have : srt [] = [] := by simp [srt]
  rw [this]; exact hgr
 ·rcases hgr with ⟨_, h, _⟩ | ⟨y, rfl, rfl⟩
  ·cases ns with
   | nil => exact absurd rfl h0
   | cons a b => simp [intsOf] at h
  ·have hy := kn.l B.length (l := y) (o := .vec 1 (intsOf ns)) (by simp)
   have hpos : 0 < ns.length := List.length_pos_iff.2 h0
   refine acall_sort (by kernel_rfl) (fun blk off cap zs w h1 h2 h3 => Go.Proofs.Any.slices_Sort_int lays189 blk off cap zs w h1 h2 h3) hy (by rw [intsOf_len]) (by rw [intsOf_len]; exact hpos) fun H' hu => ?_
   refine hK [(y, .vec 1 (intsOf (srt ns)))] H' (.inr ⟨y, by rw [intsOf_len, intsOf_len, srt_len], rfl⟩) ?_
   have := kn.callL B.length (l := y) (o := .vec 1 (intsOf ns)) (by simp) hu (by simp)
   simpa [srt] using this
def mapOf (ks : List Nat) : List (C × V) := ks.map fun k : Nat => (.int .i64 (k : Int), .c (.bool true))
theorem mapOf_len (ks : List Nat) : (mapOf ks).length = ks.length := by simp [mapOf]
theorem okKey_mapOf (ks : List Nat) (n : Int) : okKey 0 (.int .i64 n) (mapOf ks) = True := by
 refine eq_true ?_
 simp only [okKey, mapOf, List.mem_map]
 rintro e ⟨k, _, rfl⟩
 exact ⟨k, rfl⟩
theorem findE_mapOf (ks : List Nat) (b : Nat) : (findE (.int .i64 (b : Int)) (mapOf ks)).getD (.c (.bool false)) = .c (.bool (decide (b ∈ ks))) := by
 induction ks with
 | nil => simp [mapOf, findE]
 | cons k ks ih =>
  simp only [mapOf, List.map_cons, findE, keyEq] at ih ⊢
  by_cases h : b = k
  ·subst h; simp
  ·have : ¬ (b : Int) = (k : Int) := by omega
   simp only [this, decide_false, Bool.false_eq_true, if_false]
   rw [ih]; simp [h]
theorem updE_mapOf (ks : List Nat) (b : Nat) (h : b ∉ ks) : updE (.int .i64 (b : Int)) (.c (.bool true)) (mapOf ks) = mapOf (ks ++ [b]) := by
 induction ks with
 | nil => simp [mapOf, updE]
 | cons k ks ih =>
  simp only [List.mem_cons, not_or] at h
  have hk : ¬ (b : Int) = (k : Int) := by omega
  have ih := ih h.2
  simp only [mapOf, List.map_cons, updE, keyEq, hk, decide_false, Bool.false_eq_true, if_false, List.cons_append] at ih ⊢
  rw [ih]
theorem mapOf_nodup {ks : List Nat} (h : ks.Nodup) : (mapOf ks).Nodup := by
 rw [mapOf, List.Nodup, List.pairwise_map]
 refine List.Pairwise.imp (fun {a b} hab he => ?_) h
 simp only [Prod.mk.injEq, C.int.injEq, true_and, and_true] at he
 exact hab (by omega)
set_option maxHeartbeats 1000000 in
theorem sortedKeys_bool_c {M ver : Nat} {ks : List Nat} (hM : H M = .map ver (mapOf ks)) (hnd : ks.Nodup) (hl : ks.length ≤ LIM)
  (hK : ∀ fl l H', Upd H H' [] → l.Pairwise (· < ·) → (∀ x, x ∈ l ↔ x ∈ ks) → K (.c (.sl fl 1 (natsOf l))) H') :
  ACall prog fn_im_sortedKeys_bool [.c (.mp M)] H K := by
 refine acall_un ?_
 refine call_sound hmix m_im_sortedKeys_bool ?_
 have hMn : H M ≠ .none := by rw [hM]; simp
 have kn0 := Kn.start1 hM (by simp)
 refine s_reg ?_
 simp only [go_sem]
 refine s_reg ?_
 simp only [go_sem]
 refine c_as ?_
 refine s_reg ?_
 simp only [go_sem, hM]
 refine ⟨mapOf_nodup hnd, fun it hit H1 h1 => ?_⟩
 have kn := kn0.al hit h1
 refine c_seq (c_block (c_loop (fun m e1 H1 => ∃ (left : List (C × V)) (cur : Option (C × V)) (os : List Nat) (c : C) (Lg : List (Nat × Obj)), m = left.length ∧ os.Nodup ∧ (∀ x, x ∈ os → x ∈ ks) ∧ (∀ x ∈ ks, x ∈ os ∨ (C.int .i64 (x : Int), V.c (.bool true)) ∈ left) ∧
  (∀ y ∈ left, ∃ x ∈ ks, x ∉ os ∧ y = (C.int .i64 (x : Int), V.c (.bool true))) ∧ left.Nodup ∧ os.length + left.length = ks.length ∧
  Gr Lg 1 (natsOf os) c ∧ Kn H H1 [(M, .map ver (mapOf ks))] ([(it, .iter (some (M, ver)) left cur)] ++ Lg) ∧ e1 = [(3, .c c), (6, .c (.itr it))]) (mapOf ks).length ?_ ?_))
 ·refine ⟨mapOf ks, none, [], _, [], rfl, by simp, by simp, fun x hx => .inr ?_, fun y hy => ?_, mapOf_nodup hnd, by simp [mapOf], .nil 1, kn, rfl⟩
  ·exact List.mem_map.2 ⟨x, hx, rfl⟩
  ·obtain ⟨x, hx, rfl⟩ := List.mem_map.1 hy
   exact ⟨x, hx, by simp, rfl⟩
 ·rintro m e1 H2 ⟨left, cur, os, c, Lg, rfl, hond, hosub, hall, hleft, hlnd, hlen, hgr, kn, rfl⟩
  have hM2 := kn.e 0 rfl
  have hit2 := kn.l 0 rfl
  have hcw := hgr.isOw
  refine s_reg ?_
  simp only [go_sem, hcw, hit2, hM2]
  refine ⟨⟨_, rfl⟩, fun hnil => ?_, fun y left' hy hl' hnd' hlen' H3 h3 => ?_⟩
  ·subst hnil
   simp only [go_sem, s_im_sortedKeys_bool_i0, List.getD_cons_zero]
   refine c_seq (c_cond rfl (fun h => by simp at h) fun _ => ?_)
   refine c_exit ?_
   simp only [go_sem, X.next]
   refine s_reg ?_
   simp only [go_sem, hcw]
   refine Sort_c kn hgr fun Lg2 H3 hgr kn => ?_
   refine s_reg ?_
   simp only [go_sem, hcw]
   refine c_ret ?_
   simp only [go_sem, endQ, retT, r_im_sortedKeys_bool, List.mem_singleton, forall_eq, RS.op, hcw]
   have hmem : ∀ x, x ∈ os ↔ x ∈ ks := fun x => ⟨hosub x, fun hx => (hall x hx).resolve_right (by simp)⟩
   have hni : (os.map Int.ofNat).Nodup := by
    rw [List.Nodup, List.pairwise_map]
    exact List.Pairwise.imp (fun {a b} hab he => hab (Int.ofNat.inj he)) hond
   have hsn := srt_nodup hni
   obtain ⟨l, hl1, hl2, hl3⟩ : ∃ l : List Nat, srt (os.map Int.ofNat) = l.map Int.ofNat ∧ l.Pairwise (· < ·) ∧ ∀ x, x ∈ l ↔ x ∈ ks := by
    refine ⟨(srt (os.map Int.ofNat)).map Int.toNat, ?_, ?_, fun x => ?_⟩
    ·rw [List.map_map]
     conv => lhs; rw [← List.map_id (srt (os.map Int.ofNat))]
     refine List.map_congr_left fun x hx => ?_
     rw [srt_mem] at hx
     obtain ⟨y, _, rfl⟩ := List.mem_map.1 hx
     simp
    ·rw [List.pairwise_map]
     refine List.Pairwise.imp_of_mem (fun {a b} ha hb hab => ?_) hsn
     rw [srt_mem] at ha hb
     obtain ⟨x, _, rfl⟩ := List.mem_map.1 ha
     obtain ⟨y, _, rfl⟩ := List.mem_map.1 hb
     simpa using hab
    ·rw [← hmem]
     constructor
     ·intro hx
      obtain ⟨y, hy, rfl⟩ := List.mem_map.1 hx
      rw [srt_mem] at hy
      obtain ⟨z, hz, rfl⟩ := List.mem_map.1 hy
      simpa using hz
     ·intro hx
      exact List.mem_map.2 ⟨(x : Int), by rw [srt_mem]; exact List.mem_map.2 ⟨x, hx, rfl⟩, by simp⟩
   have := hgr.frz kn (intsOf_noOw _)
   rw [hl1] at this
   exact ⟨_, .c _ _ this, hK _ l _ (kn.fin.drop1 hM) hl2 hl3⟩
  ·obtain ⟨k, hk, hkos, rfl⟩ := hleft y hy
   have kn := kn.stL 0 rfl h3
   have hM3 := kn.e 0 rfl
   have hit3 := kn.l 0 rfl
   simp only [go_sem, s_im_sortedKeys_bool_i0, List.getD_cons_zero]
   refine c_seq (c_cond rfl (fun _ => ?_) (fun h => by simp at h))
   refine c_skip ?_
   simp only [go_sem]
   refine c_block ?_
   refine s_reg ?_
   simp only [go_sem, hcw, hit3, hM3]
   refine ⟨⟨_, rfl⟩, ?_⟩
   simp only [go_sem, s_im_sortedKeys_bool_i1, List.getD_cons_zero]
   refine c_reg ?_
   simp only [go_sem, hcw]
   have hol : os.length + 1 ≤ LIM := by omega
   refine kn.growR (B := [_]) (new := natsOf [k]) hgr (.mk' _ _ _ _) (natsOf_noOw _) (by simp only [natsOf_len, List.length_cons, List.length_nil]; omega) fun t Lg' H4 hgr ht kn => ?_
   simp only [go_sem, s_im_sortedKeys_bool_i2, X.next]
   refine ⟨left'.length, by omega, left', _, os ++ [k], t, Lg', rfl, ?_, fun x hx => ?_, fun x hx => ?_, fun y hy' => ?_, hnd', ?_, ?_, kn, rfl⟩
   ·refine List.nodup_append.2 ⟨hond, by simp, fun a ha b hb => ?_⟩
    simp at hb; subst hb; exact fun e => hkos (e ▸ ha)
   ·rcases List.mem_append.1 hx with hx | hx
    ·exact hosub x hx
    ·simp at hx; subst hx; exact hk
   ·rcases hall x hx with h | h
    ·exact .inl (List.mem_append_left _ h)
    ·by_cases hxk : x = k
     ·subst hxk; exact .inl (List.mem_append_right _ (by simp))
     ·refine .inr ((hl' _).2 ⟨h, fun he => hxk ?_⟩)
      simp only [Prod.mk.injEq, C.int.injEq, true_and, and_true] at he
      omega
   ·obtain ⟨h1, h2⟩ := (hl' y).1 hy'
    obtain ⟨x, hx, hxo, rfl⟩ := hleft y h1
    refine ⟨x, hx, fun hh => ?_, rfl⟩
    rcases List.mem_append.1 hh with hh | hh
    ·exact hxo hh
    ·simp at hh; subst hh; exact h2 rfl
   ·simp; omega
   ·rw [natsOf_app]; exact hgr
end Go.AE.Y

namespace Go.AE.Y
open Go.Proofs.Tryz
variable {H H0 : Heap} {K : V → Heap → Prop}
structure InB (n : Nat) (g : Nat → List Nat) (S : List Bool) (ks : List Nat) : Prop where
 len : S.length = n
 s : ∀ x, x < n → S.getD x false = (decide (x ∈ ks) || !rchB g (-1) x)
 nd : ks.Nodup
 lt : ∀ x ∈ ks, x < n
 i : ∀ x ∈ ks, rchB g (-1) x = true
 c : ks.length ≤ cnt S
theorem InB.add {n : Nat} {g : Nat → List Nat} {S : List Bool} {ks : List Nat} {b : Nat} (h : InB n g S ks) (hb : b < n) (hbs : b ∉ ks) (hi : rchB g (-1) b = true) : S.getD b false = false ∧ InB n g (S.set b true) (ks ++ [b]) := by
 have hsb : S.getD b false = false := by rw [h.s b hb]; simp [hbs, hi]
 have hbS : b < S.length := by rw [h.len]; exact hb
 refine ⟨hsb, by rw [List.length_set]; exact h.len, fun x hx => ?_, ?_, fun x hx => ?_, fun x hx => ?_, ?_⟩
 ·rw [getD_set]
  by_cases hxb : x = b
  ·subst hxb; simp [hbS]
  ·simp only [hxb, false_and, if_false, List.mem_append, List.mem_singleton, or_false]
   exact h.s x hx
 ·refine List.nodup_append.2 ⟨h.nd, by simp, fun a ha c hc => ?_⟩
  simp at hc; subst hc; exact fun e => hbs (e ▸ ha)
 ·rcases List.mem_append.1 hx with hx | hx
  ·exact h.lt x hx
  ·simp at hx; omega
 ·rcases List.mem_append.1 hx with hx | hx
  ·exact h.i x hx
  ·simp at hx; subst hx; exact hi
 ·rw [cnt_set hbS hsb, List.length_append]
  have := h.c
  simp; omega
def bdCaps (x5 x6 : Nat) (dc : List C) : List C := [.ptr x5 0, .pp [.pp dc], .ptr x6 0]
def bdE (M x5 x6 ver : Nat) (dc : List C) (ks : List Nat) : List (Nat × Obj) :=
 [(M, .map ver (mapOf ks)), (x5, .st [.mp M]), (x6, .st [.fn fn_im_doms_body_c1 (bdCaps x5 x6 dc)])]
set_option maxHeartbeats 2000000 in
theorem add_c {F : Heap} {p rg : Int} {fl : Bool} {rows : List (List C)} {nx : Nat → List Int} {M x5 x6 : Nat} (hg : GF rows nx) (hf : fitsB rows.length nx = true) :
  ∀ (u b : Nat) (S : List Bool) (ks o : List Nat) (ver : Nat) (H : Heap) (K : V → Heap → Prop), rows.length - cnt S < u → b < rows.length → InB rows.length (nxN nx) S ks →
   Kn F H (bdE M x5 x6 ver (domC p rg fl rows (nxN nx)) ks) [] →
   (∀ (S' : List Bool) (ks' o' : List Nat) (ver' : Nat) (H' : Heap), Dfs (predL rows.length (nxN nx)) [b] S o S' o' → InB rows.length (nxN nx) S' ks' → Kn F H' (bdE M x5 x6 ver' (domC p rg fl rows (nxN nx)) ks') [] → K (.tup []) H') →
   ACall prog fn_im_doms_body_c1 ([.c (.int .i64 b)] ++ (bdCaps x5 x6 (domC p rg fl rows (nxN nx))).map .c) H K := by
 have hn := hg.n
 intro u
 induction u with
 | zero => intro b S ks o ver H K hu; omega
 | succ u ih =>
  intro b S ks o ver H K hu hb hin kn hK
  refine call_sound hmix m_im_doms_body_c1 ?_
  have hM := kn.e 0 rfl
  have hx5 := kn.e 1 rfl
  have hx6 := kn.e 2 rfl
  have hbi : b < (inL rows.length (nxN nx)).length := by rw [inL_len]; exact hb
  have hcl := cnt_le S
  have hSl := hin.len
  refine c_as ?_
  refine s_reg ?_
  simp only [go_sem, bdCaps, domC, hx5, hM, okMap, entriesOf, okKey_mapOf, findE_mapOf, hb, boolsOf_len, inL_len, boolsOf_getD _ _ hbi, inL_getD hb]
  refine c_seq (c_cond rfl ?_ ?_)
  ·intro hc
   have hsb : S.getD b false = true := by
    rw [hin.s b hb]
    by_cases h : b ∈ ks
    ·simp [h]
    ·simp only [h, decide_false, cond_false] at hc
     simp [hc]
   refine c_ret ?_
   simp only [go_sem, endQ, retT, r_im_doms_body_c1, List.not_mem_nil]
   exact ⟨fun _ => trivial, hK S ks o ver H (.skip hsb (.nil _ _)) hin kn⟩
  ·intro hc
   have hb2 : b ∉ ks ∧ rchB (nxN nx) (-1) b = true := by
    by_cases h : b ∈ ks
    ·simp [h] at hc
    ·simp only [h, decide_false, cond_false] at hc
     exact ⟨h, not_f hc⟩
   obtain ⟨hsb, hin1⟩ := hin.add hb hb2.1 hb2.2
   have hbS : b < S.length := by omega
   have hcS := cnt_set hbS hsb
   have hkl := hin.c
   refine c_skip ?_
   simp only [go_sem]
   refine s_reg ?_
   simp only [go_sem, hx5, hM, okKey_mapOf, mapOf_len, updE_mapOf _ _ hb2.1]
   refine ⟨by simp only [LIM]; omega, fun H1 h1 => ?_⟩
   have kn : Kn F H1 (bdE M x5 x6 (ver + 1) (domC p rg fl rows (nxN nx)) (ks ++ [b])) [] := kn.stE 0 rfl h1
   refine s_reg ?_
   simp only [go_sem]
   refine PredsOf_c (hg.grd _ _) fun fl' H2 hu2 => ?_
   have kn := kn.call0 hu2
   rw [predsIn_nat hf hb]
   simp only [go_sem, s_im_doms_body_c1_i0, intsOf_len, List.length_map]
   intro _
   have hpl := predL_len rows.length (nxN nx) b
   refine c_block (c_loop (fun m e1 H1 => ∃ (i : Nat) (S1 : List Bool) (ks1 o1 : List Nat) (ver1 : Nat), m = (predL rows.length (nxN nx) b).length - i ∧ i ≤ (predL rows.length (nxN nx) b).length ∧ Dfs (predL rows.length (nxN nx)) ((predL rows.length (nxN nx) b).take i) (S.set b true) o S1 o1 ∧
    InB rows.length (nxN nx) S1 ks1 ∧ Kn F H1 (bdE M x5 x6 ver1 (domC p rg fl rows (nxN nx)) ks1) [] ∧
    e1 = [(3, .c (.ptr x6 0)), (27, .c (.sl fl' 1 (natsOf (predL rows.length (nxN nx) b)))), (28, .c (.int .i64 (predL rows.length (nxN nx) b).length)), (29, .c (.int .i64 i))]) (predL rows.length (nxN nx) b).length ?_ ?_)
   ·exact ⟨0, _, _, o, _, by omega, by omega, .nil _ _, hin1, kn, rfl⟩
   ·rintro m e1 H3 ⟨i, S1, ks1, o1, ver1, hm, hi, hd, hin2, kn, rfl⟩
    have hx6 := kn.e 2 rfl
    have hgl : ∀ x, x < (S.set b true).length → ∀ z ∈ predL rows.length (nxN nx) x, z < (S.set b true).length := by
     rw [List.length_set, hSl]
     exact fun x hx z hz => (predL_mem.1 hz).1
    have hd2 := hd.count hgl (fun x hx => hgl b (by rw [List.length_set]; exact hbS) x (List.mem_of_mem_take hx))
    have hd3 := hd.olen
    have hd4 := cnt_le S1
    have hd5 := hin2.len
    refine s_reg ?_
    simp only [go_sem]
    refine c_seq (c_cond rfl ?_ ?_)
    ·intro hc2
     have hlt : i < (predL rows.length (nxN nx) b).length := by simpa using hc2
     have hgd : (predL rows.length (nxN nx) b).getD i 0 = (predL rows.length (nxN nx) b)[i] := by simp [List.getD_eq_getElem?_getD, hlt]
     have hql := (predL_mem.1 (List.getElem_mem hlt)).1
     rw [← hgd] at hql
     have htk : (predL rows.length (nxN nx) b).take (i + 1) = (predL rows.length (nxN nx) b).take i ++ [(predL rows.length (nxN nx) b).getD i 0] := by
      rw [List.take_succ_eq_append_getElem hlt, hgd]
     refine c_skip ?_
     simp only [go_sem]
     refine c_seq (c_block ?_)
     refine s_reg ?_
     simp only [go_sem, hlt, natsOf_len, natsOf_getD _ _ hlt]
     refine c_reg ?_
     simp only [go_sem, hx6]
     refine ih _ S1 ks1 o1 ver1 H3 _ (by omega) hql hin2 kn fun S2 ks2 o2 ver2 H4 hd' hin3 kn => ?_
     refine c_reg ?_
     simp only [go_sem, X.next]
     refine ⟨inR64 (by omega) (by omega), (predL rows.length (nxN nx) b).length - (i + 1), by omega, i + 1, S2, ks2, o2, ver2, rfl, by omega, ?_, hin3, kn, rfl⟩
     rw [htk]; exact hd.app hd'
    ·intro hc2
     have hge : (predL rows.length (nxN nx) b).length ≤ i := by simpa using hc2
     rw [List.take_of_length_le hge] at hd
     refine c_exit ?_
     simp only [go_sem, X.next, endQ, retT, r_im_doms_body_c1, List.not_mem_nil]
     exact ⟨fun _ => trivial, hK S1 ks1 (o1 ++ [b]) ver1 H3 (.one hsb hd) hin2 kn⟩
set_option maxHeartbeats 2000000 in
theorem body_c {p rg : Int} {fl : Bool} {rows : List (List C)} {nx : Nat → List Int} {h : Nat} (hg : GF rows nx) (hf : fitsB rows.length nx = true) (hh : h < rows.length) (hhi : rchB (nxN nx) (-1) h = true)
  (hK : ∀ fl' H', Upd H H' [] → K (.c (.sl fl' 1 (natsOf (bodyL rows.length (nxN nx) h)))) H') :
  ACall prog fn_im_doms_body [.c (.pp (domC p rg fl rows (nxN nx))), .c (.int .i64 h)] H K := by
 have hn := hg.n
 refine acall_un ?_
 refine call_sound hmix m_im_doms_body ?_
 refine s_reg ?_
 simp only [go_sem]
 refine s_reg ?_
 simp only [go_sem]
 intro M hM0 H1 h1
 have kn := (Kn.start0 H).al hM0 h1
 have hM := kn.l 0 rfl
 have e0 : ([] : List (C × V)) = mapOf [] := rfl
 simp only [go_sem, s_im_doms_body_i2, hM, e0, okKey_mapOf, mapOf_len, updE_mapOf _ _ (List.not_mem_nil (a := h))]
 refine ⟨by simp only [LIM]; omega, fun H2 h2 => ?_⟩
 have kn := kn.stL 0 rfl h2
 simp only [go_sem, s_im_doms_body_i1]
 intro x5 hx5 H3 h3
 have kn := kn.al hx5 h3
 have hx5 := kn.l 1 rfl
 simp only [go_sem, s_im_doms_body_i0, hx5]
 intro H4 h4
 have kn := kn.stL 1 rfl h4
 refine s_reg ?_
 simp only [go_sem]
 intro x6 hx6 H5 h5
 have kn := kn.al hx6 h5
 have hx6 := kn.l 2 rfl
 refine s_reg ?_
 simp only [go_sem, hx6]
 intro H6 h6
 have kn : Kn H H6 [] (bdE M x5 x6 1 (domC p rg fl rows (nxN nx)) [h] ++ []) := kn.stL 2 rfl h6
 have kF := kn.mid
 refine c_as ?_
 refine s_reg ?_
 simp only [go_sem, domC]
 refine PredsOf_c (hg.grd _ _) fun fl' H7 hu => ?_
 have kF := kF.call0 hu
 rw [predsIn_nat hf hh]
 simp only [go_sem, s_im_doms_body_i3, intsOf_len, List.length_map]
 intro _
 have hpl := predL_len rows.length (nxN nx) h
 have hS0 : InB rows.length (nxN nx) ((List.range rows.length).map fun x => decide (x = h) || !rchB (nxN nx) (-1) x) [h] := by
  refine ⟨by simp, fun x hx => ?_, by simp, by simpa using hh, by simpa using hhi, ?_⟩
  ·rw [map_range_getD _ _ hx]; simp
  ·have : 0 < cnt ((List.range rows.length).map fun x => decide (x = h) || !rchB (nxN nx) (-1) x) := by
    rw [cnt, List.count_pos_iff, List.mem_map]
    exact ⟨h, List.mem_range.2 hh, by simp⟩
   simp only [List.length_cons, List.length_nil]; omega
 refine c_seq (c_block (c_loop (fun m e1 H1 => ∃ (i : Nat) (S1 : List Bool) (ks1 o1 : List Nat) (ver1 : Nat), m = (predL rows.length (nxN nx) h).length - i ∧ i ≤ (predL rows.length (nxN nx) h).length ∧
  Dfs (predL rows.length (nxN nx)) (((predL rows.length (nxN nx) h).take i).filter (domB (nxN nx) h)) ((List.range rows.length).map fun x => decide (x = h) || !rchB (nxN nx) (-1) x) [] S1 o1 ∧
  InB rows.length (nxN nx) S1 ks1 ∧ Kn H6 H1 (bdE M x5 x6 ver1 (domC p rg fl rows (nxN nx)) ks1) [] ∧
  e1 = [(1, .c (.int .i64 h)), (2, .c (.pp [.pp (domC p rg fl rows (nxN nx))])), (5, .c (.ptr x5 0)), (6, .c (.ptr x6 0)), (18, .c (.sl fl' 1 (natsOf (predL rows.length (nxN nx) h)))), (19, .c (.int .i64 (predL rows.length (nxN nx) h).length)), (20, .c (.int .i64 i))]) (predL rows.length (nxN nx) h).length ?_ ?_))
 ·exact ⟨0, _, [h], [], 1, by omega, by omega, .nil _ _, hS0, kF, rfl⟩
 ·rintro m e1 H8 ⟨i, S1, ks1, o1, ver1, hm, hi, hd, hin, kF, rfl⟩
  have hx6 := kF.e 2 rfl
  have hx5 := kF.e 1 rfl
  have hM := kF.e 0 rfl
  refine s_reg ?_
  simp only [go_sem]
  refine c_seq (c_cond rfl ?_ ?_)
  ·intro hc2
   have hlt : i < (predL rows.length (nxN nx) h).length := by simpa using hc2
   have hgd : (predL rows.length (nxN nx) h).getD i 0 = (predL rows.length (nxN nx) h)[i] := by simp [List.getD_eq_getElem?_getD, hlt]
   have hql := (predL_mem.1 (List.getElem_mem hlt)).1
   rw [← hgd] at hql
   have htk : (predL rows.length (nxN nx) h).take (i + 1) = (predL rows.length (nxN nx) h).take i ++ [(predL rows.length (nxN nx) h).getD i 0] := by
    rw [List.take_succ_eq_append_getElem hlt, hgd]
   refine c_skip ?_
   simp only [go_sem]
   refine c_cut (fun e2 H2 => ∃ (S2 : List Bool) (ks2 o2 : List Nat) (ver2 : Nat), Dfs (predL rows.length (nxN nx)) (((predL rows.length (nxN nx) h).take (i + 1)).filter (domB (nxN nx) h)) ((List.range rows.length).map fun x => decide (x = h) || !rchB (nxN nx) (-1) x) [] S2 o2 ∧
    InB rows.length (nxN nx) S2 ks2 ∧ Kn H6 H2 (bdE M x5 x6 ver2 (domC p rg fl rows (nxN nx)) ks2) [] ∧
    lk 1 e2 = .c (.int .i64 h) ∧ lk 2 e2 = .c (.pp [.pp (domC p rg fl rows (nxN nx))]) ∧ lk 5 e2 = .c (.ptr x5 0) ∧ lk 6 e2 = .c (.ptr x6 0) ∧ lk 18 e2 = .c (.sl fl' 1 (natsOf (predL rows.length (nxN nx) h))) ∧ lk 19 e2 = .c (.int .i64 (predL rows.length (nxN nx) h).length) ∧ lk 20 e2 = .c (.int .i64 i)) ?_ ?_
   ·intro Q hnr _ _
    refine c_block ?_
    refine s_reg ?_
    simp only [go_sem, hlt, natsOf_len, natsOf_getD _ _ hlt]
    refine s_reg ?_
    simp only [go_sem]
    refine dominates_c hh hql ?_
    refine c_cond rfl ?_ ?_
    ·intro hdm
     refine c_reg ?_
     simp only [go_sem, hx6]
     refine add_c hg hf (rows.length + 1) _ S1 ks1 o1 ver1 H8 _ (by omega) hql hin kF fun S2 ks2 o2 ver2 H9 hd' hin2 kF => ?_
     refine hnr _ _ ⟨S2, ks2, o2, ver2, ?_, hin2, kF, rfl, rfl, rfl, rfl, rfl, rfl, rfl⟩
     rw [htk, List.filter_append, List.filter_cons, hdm]
     exact hd.app hd'
    ·intro hdm
     refine c_skip ?_
     simp only [go_sem]
     refine hnr _ _ ⟨S1, ks1, o1, ver1, ?_, hin, kF, rfl, rfl, rfl, rfl, rfl, rfl, rfl⟩
     rw [htk, List.filter_append, List.filter_cons, hdm]
     simpa using hd
   ·rintro e2 H2 ⟨S2, ks2, o2, ver2, hd, hin, kF, l1, l2, l5, l6, l18, l19, l20⟩
    refine c_reg ?_
    simp only [go_sem, X.next, l1, l2, l5, l6, l18, l19, l20]
    exact ⟨inR64 (by omega) (by omega), (predL rows.length (nxN nx) h).length - (i + 1), by omega, i + 1, S2, ks2, o2, ver2, rfl, by omega, hd, hin, kF, rfl⟩
  ·intro hc2
   have hge : (predL rows.length (nxN nx) h).length ≤ i := by simpa using hc2
   rw [List.take_of_length_le hge] at hd
   refine c_exit ?_
   simp only [go_sem, X.next]
   refine s_reg ?_
   simp only [go_sem, hx5]
   have hkl := hin.c
   have hcl := cnt_le S1
   have hSl := hin.len
   refine sortedKeys_bool_c hM hin.nd (by simp only [LIM]; omega) fun fl2 l H9 hu hasc hmem => ?_
   have kn := kn.comp (kF.call0 hu) rfl
   simp only [go_sem, s_im_doms_body_i9]
   refine c_ret ?_
   simp only [go_sem, endQ, retT, r_im_doms_body, List.mem_singleton, forall_eq, RS.op]
   have hl : l = bodyL rows.length (nxN nx) h := by
    refine asc_eq hasc bodyL_asc fun x => ?_
    rw [hmem, bodyL_mem hh]
    have hof := fun (hx : x < rows.length) (hix : rchB (nxN nx) (-1) x = true) => Bdy.of_dfs (n := rows.length) hhi hh (by simp) (fun y hy => map_range_getD _ _ hy) hd hx hix
    constructor
    ·intro hx
     have hxl := hin.lt x hx
     have hxi := hin.i x hx
     refine (hof hxl hxi).1 ?_
     rw [hin.s x hxl]; simp [hx]
    ·intro hx
     have hxl := hx.lt hh
     have hxi := hx.reached hhi
     have := (hof hxl hxi).2 hx
     rw [hin.s x hxl, hxi] at this
     simpa using this
   rw [hl]
   exact ⟨_, .c _ _ (frzc_sl (noOw_mem (natsOf_noOw _))), hK _ _ kn.fin⟩
end Go.AE.Y

namespace Go.AE.Y
open Go.Proofs.Tryz
variable {H H0 : Heap} {K : V → Heap → Prop} {E B Lg : List (Nat × Obj)}
def Gw (Lg : List (Nat × Obj)) (sz : Nat) (rows : List (List C)) (c : C) : Prop :=
 (c = .sl true sz [] ∧ rows = [] ∧ Lg = []) ∨ ∃ y R, c = .vsl y sz 0 rows.length ∧ Lg = [(y, .vec sz R)] ∧ R.take rows.length = rows
end Go.AE.Y
namespace Go.AE
open Go.AE.Y
open Go.Proofs.Tryz
variable {H H0 : Heap} {K : V → Heap → Prop} {E B Lg : List (Nat × Obj)}
theorem Gr.gw {sz : Nat} {rows : List (List C)} {c : C} (h : Gr Lg sz rows c) : Gw Lg sz rows c := by
 rcases h with h | ⟨y, h1, h2⟩
 ·exact .inl h
 ·exact .inr ⟨y, rows, h1, h2, List.take_length⟩
end Go.AE
namespace Go.AE.Y
open Go.Proofs.Tryz
variable {H H0 : Heap} {K : V → Heap → Prop} {E B Lg : List (Nat × Obj)}
theorem Gw.isOw {sz : Nat} {rows : List (List C)} {c : C} (h : Gw Lg sz rows c) : c.isOw = false := by rcases h with ⟨rfl, _⟩ | ⟨y, R, rfl, _⟩ <;> rfl
theorem Gw.frz {ns : List Int} {c : C} (h : Gw Lg 1 (intsOf ns) c) (kn : Kn H0 H E (B ++ Lg)) : FrzC H (un H0) c (.sl false 1 (intsOf ns)) := by
 rcases h with ⟨rfl, h2, _⟩ | ⟨y, R, rfl, rfl, hR⟩
 ·rw [h2]; exact FrzR.nil.sl
 ·have hle : (intsOf ns).length ≤ R.length := by
   have := congrArg List.length hR
   rw [List.length_take] at this
   omega
  have h := FrzR.same (H := H) (S := un H0) (intsOf_noOw ns)
  exact .vsl y 1 0 _ R (intsOf ns) (intsOf ns) (un_free (kn.loc (y, .vec 1 R) (by simp))) (kn.get (y, .vec 1 R) (by simp)).1 (by omega) (by simpa using hR.symm) h.spec.1 (fun i r r' h1 h2 => (h.spec.2 i r r' h1 h2).spec.1) fun i r r' j c c' h1 h2 h3 h4 => (h.spec.2 i r r' h1 h2).spec.2 j c c' h3 h4
theorem Clone_c {fl : Bool} {ns : List Int} {L : List (Nat × Obj)} (kn : Kn H0 H E L) (hl : ns.length ≤ LIM) (hK : ∀ t Lg H', Gr Lg 1 (intsOf ns) t → t.isOw = false → Kn H0 H' E (L ++ Lg) → K (.c t) H') :
  ACall prog fn_sl_Clone [.c (.sl fl 1 (intsOf ns))] H K := by
 refine call_sound hmix m_sl_Clone ?_
 refine s_reg ?_
 simp only [go_sem]
 refine c_as ?_
 refine s_reg ?_
 simp only [go_sem]
 intro b hb
 refine c_seq (c_cond rfl ?_ ?_)
 ·intro hbt
  have hn := hb hbt
  refine s_reg ?_
  simp only [go_sem]
  refine c_ret ?_
  simp only [go_sem, endQ, retT, r_sl_Clone, List.mem_singleton, forall_eq, RS.op]
  refine hK _ [] H ?_ rfl (by simpa using kn)
  rw [hn]; exact .nil 1
 ·intro hbf
  refine c_skip ?_
  simp only [go_sem]
  refine s_reg ?_
  simp only [go_sem, intsOf_len]
  refine ⟨.inl trivial, intsOf_noOw _, by omega, fun z hz H1 h1 => ?_⟩
  have kn := kn.al hz h1
  simp only [go_sem, s_sl_Clone_i1]
  refine c_ret ?_
  simp only [go_sem, endQ, retT, r_sl_Clone, List.mem_singleton, forall_eq, RS.op]
  exact hK _ _ H1 (.mk z 1 _ (by rw [intsOf_len]; omega)) rfl kn
theorem intsOf_set (ns : List Int) (i : Nat) (x : Int) : (intsOf ns).set i [.int .i64 x] = intsOf (ns.set i x) := by simp [intsOf, List.map_set]
theorem intsOf_take (ns : List Int) (k : Nat) : (intsOf ns).take k = intsOf (ns.take k) := by simp [intsOf, List.map_take]
set_option maxHeartbeats 2000000 in
theorem Compact_c {c : C} {ns : List Int} (kn : Kn H0 H E (B ++ Lg)) (hgr : Gr Lg 1 (intsOf ns) c) (hs : ns.Pairwise (· ≤ ·)) (hL : ns.length ≤ 2 ^ 38)
  (hK : ∀ t Lg' ns' H', Gw Lg' 1 (intsOf ns') t → t.isOw = false → Kn H0 H' E (B ++ Lg') → ns'.Pairwise (· < ·) → (∀ x, x ∈ ns' ↔ x ∈ ns) → ns'.length ≤ ns.length → K (.c t) H') :
  ACall prog fn_sl_Compact [.c c] H K := by
 have how := hgr.isOw
 have hok := eq_true (hgr.okSl kn)
 have hlen := hgr.lenC
 have hrw := hgr.rowsOf kn
 have hsz := hgr.elemSz
 refine call_sound hmix m_sl_Compact ?_
 refine s_reg ?_
 simp only [go_sem, how]
 refine c_as ?_
 refine s_reg ?_
 simp only [go_sem, how, hok, hlen, intsOf_len]
 intro _
 refine c_seq (c_cond rfl ?_ ?_)
 ·intro hc
  have h2 : ns.length < 2 := by have := of_decide_eq_true hc; omega
  refine s_reg ?_
  simp only [go_sem, how]
  refine c_ret ?_
  simp only [go_sem, endQ, retT, r_sl_Compact, List.mem_singleton, forall_eq, RS.op, how]
  exact hK c Lg ns H hgr.gw how kn (asc_of_ne hs fun i h0 hi => by omega) (fun _ => Iff.rfl) (Nat.le_refl _)
 ·intro hc
  have h2 : 2 ≤ ns.length := by have := of_decide_eq_false hc; omega
  obtain ⟨z, rfl, rfl⟩ : ∃ z, c = .vsl z 1 0 ns.length ∧ Lg = [(z, .vec 1 (intsOf ns))] := by
   rcases hgr with ⟨_, h, _⟩ | ⟨y, h1, h2⟩
   ·have : ns.length = 0 := by rw [← intsOf_len, h]; rfl
    omega
   ·exact ⟨y, by rw [h1, intsOf_len], h2⟩
  have hz := kn.l B.length (l := z) (o := .vec 1 (intsOf ns)) (by simp)
  refine c_skip ?_
  simp only [go_sem]
  refine c_as ?_
  refine s_reg ?_
  simp only [go_sem]
  refine c_seq (c_block (c_loop (fun m e1 H1 => ∃ (k : Nat), m = ns.length - k ∧ 0 < k ∧ k ≤ ns.length ∧ H1 = H ∧ (∀ i, 0 < i → i < k → ns.getD i 0 ≠ ns.getD (i - 1) 0) ∧ e1 = [(0, .c (.vsl z 1 0 ns.length)), (3, .c (.int .i64 k))]) (ns.length - 1) ?_ ?_))
  ·exact ⟨1, rfl, by omega, by omega, rfl, fun i h0 h1 => by omega, rfl⟩
  ·rintro m e1 H1 ⟨k, hm, hk0, hk, rfl, hne, rfl⟩
   refine c_as ?_
   refine s_reg ?_
   simp only [go_sem, hz, intsOf_len, Nat.zero_add, Nat.le_refl]
   intro hlim
   simp only [LIM] at hlim
   refine c_seq (c_cond rfl ?_ ?_)
   ·intro hc2
    have hlt : k < ns.length := by simpa using hc2
    have hlt1 : k - 1 < ns.length := by omega
    have e1 : ((k : Int) - 1) = ((k - 1 : Nat) : Int) := by omega
    have htk : (intsOf ns).take ns.length = intsOf ns := List.take_of_length_le (by rw [intsOf_len]; exact Nat.le_refl _)
    refine c_skip ?_
    simp only [go_sem]
    refine c_seq (c_block ?_)
    refine s_dreg ?_
    simp only [go_sem, hz, e1, hlt, hlt1, htk, intsOf_len, intsOf_getD _ _ hlt, intsOf_getD _ _ hlt1, Nat.zero_add, Nat.le_refl]
    refine ⟨inR64 (by omega) (by omega), ?_⟩
    refine c_cond rfl ?_ ?_
    ·intro hc3
     have heq : ns.getD k 0 = ns.getD (k - 1) 0 := by simpa using hc3
     refine s_reg ?_
     simp only [go_sem, hz, hlt, intsOf_len, Nat.zero_add, Nat.le_refl]
     refine ⟨by omega, ?_⟩
     refine c_as ?_
     refine s_reg ?_
     simp only [go_sem]
     refine c_seq (c_block (c_loop (fun m e1 H2 => ∃ (j kk : Nat) (R : List Int), m = ns.length - j ∧ k < j ∧ j ≤ ns.length ∧ Cmp ns R kk j ∧ Kn H0 H2 E (B ++ [(z, .vec 1 (intsOf R))]) ∧
      e1 = [(0, .c (.vsl z 1 0 ns.length)), (3, .c (.int .i64 kk)), (4, .c (.vsl z 1 k (ns.length - k))), (5, .c (.int .i64 ((j - k : Nat) : Int)))]) (ns.length - (k + 1)) ?_ ?_))
     ·refine ⟨k + 1, k, ns, rfl, by omega, by omega, .start hs hk0 hlt hne heq, kn, ?_⟩
      have : k + 1 - k = 1 := by omega
      rw [this]; rfl
     ·rintro m2 e1 H2 ⟨j, kk, R, hm2, hkj, hj, hcm, kn, rfl⟩
      have hz := kn.l B.length (l := z) (o := .vec 1 (intsOf R)) (by simp)
      have hRl := hcm.len
      have hkkj := hcm.kj
      refine c_as ?_
      refine s_reg ?_
      have e3 : k + (ns.length - k) = ns.length := by omega
      simp only [go_sem, hz, intsOf_len, hRl, e3, Nat.zero_add, Nat.le_refl]
      intro _
      refine c_seq (c_cond rfl ?_ ?_)
      ·intro hc4
       have hjl : j < ns.length := by have := of_decide_eq_true hc4; omega
       have hjR : j < R.length := by omega
       have hjR1 : j - 1 < R.length := by omega
       have hjk : j - k < ns.length - k := by omega
       have hjk1 : j - k - 1 < ns.length - k := by omega
       have e4 : (((j - k : Nat) : Int) - 1) = ((j - k - 1 : Nat) : Int) := by omega
       have hr1 : (((intsOf R).drop k).take (ns.length - k)).getD (j - k) [] = [.int .i64 (ns.getD j 0)] := by
        rw [← hcm.same j (by omega), ← intsOf_getD _ _ hjR]
        simp only [List.getD_eq_getElem?_getD, List.getElem?_take, List.getElem?_drop]
        rw [if_pos hjk]
        have : k + (j - k) = j := by omega
        rw [this]
       have hr2 : (((intsOf R).drop k).take (ns.length - k)).getD (j - k - 1) [] = [.int .i64 (ns.getD (j - 1) 0)] := by
        rw [← hcm.same (j - 1) (by omega), ← intsOf_getD _ _ hjR1]
        simp only [List.getD_eq_getElem?_getD, List.getElem?_take, List.getElem?_drop]
        rw [if_pos hjk1]
        have : k + (j - k - 1) = j - 1 := by omega
        rw [this]
       refine c_skip ?_
       simp only [go_sem]
       refine c_cut (fun e2 H3 => ∃ (kk : Nat) (R : List Int), Cmp ns R kk (j + 1) ∧ Kn H0 H3 E (B ++ [(z, .vec 1 (intsOf R))]) ∧
        lk 0 e2 = .c (.vsl z 1 0 ns.length) ∧ lk 3 e2 = .c (.int .i64 kk) ∧ lk 4 e2 = .c (.vsl z 1 k (ns.length - k)) ∧ lk 5 e2 = .c (.int .i64 ((j - k : Nat) : Int))) ?_ ?_
       ·intro Q hnr _ _
        refine c_block ?_
        refine s_dreg ?_
        simp only [go_sem, hz, e3, e4, hr1, hr2, hjk, hjk1, intsOf_len, hRl, Nat.le_refl]
        refine ⟨inR64 (by omega) (by omega), ?_⟩
        refine c_cond rfl ?_ ?_
        ·intro hc5
         have hne5 : ns.getD j 0 ≠ ns.getD (j - 1) 0 := by simpa using hc5
         have hkkl : kk < ns.length := by omega
         have hkkR : kk < R.length := by omega
         have htk : (intsOf R).take ns.length = intsOf R := List.take_of_length_le (by rw [intsOf_len]; omega)
         refine s_reg ?_
         simp only [go_sem, hz, e3, hr1, hjk, hkkl, htk, intsOf_getD _ _ hkkR, intsOf_set, intsOf_len, hRl, Nat.zero_add, Nat.le_refl]
         intro H3 h3
         have kn3 := kn.stL B.length (x := z) (o := .vec 1 (intsOf R)) (by simp) h3
         have kn : Kn H0 H3 E (B ++ [(z, .vec 1 (intsOf (R.set kk (ns.getD j 0))))]) := by simpa using kn3
         refine c_reg ?_
         simp only [go_sem]
         refine ⟨inR64 (by omega) (by omega), ?_⟩
         exact hnr _ _ ⟨kk + 1, _, hcm.ne hs hjl hne5, kn, rfl, rfl, rfl, rfl⟩
        ·intro hc5
         have heq5 : ns.getD j 0 = ns.getD (j - 1) 0 := by simpa using hc5
         refine c_skip ?_
         simp only [go_sem]
         exact hnr _ _ ⟨kk, R, hcm.eq hjl heq5, kn, rfl, rfl, rfl, rfl⟩
       ·rintro e2 H3 ⟨kk, R, hcm, kn, l0, l3, l4, l5⟩
        refine c_reg ?_
        simp only [go_sem, X.next, l0, l3, l4, l5]
        refine ⟨inR64 (by omega) (by omega), ns.length - (j + 1), by omega, j + 1, kk, R, rfl, by omega, by omega, hcm, kn, ?_⟩
        have : (((j - k : Nat) : Int) + 1) = ((j + 1 - k : Nat) : Int) := by omega
        rw [this]
      ·intro hc4
       have hje : j = ns.length := by have := of_decide_eq_false hc4; omega
       subst hje
       have hkkl : kk ≤ R.length := by omega
       refine c_exit ?_
       simp only [go_sem, X.next]
       refine s_reg ?_
       have e5 : kk + (ns.length - kk) = ns.length := by omega
       simp only [go_sem, hz, e5, intsOf_len, hRl, Nat.zero_add, Nat.le_refl]
       refine ⟨by omega, fun H3 h3 => ?_⟩
       have kn3 := kn.stL B.length (x := z) (o := .vec 1 (intsOf R)) (by simp) h3
       have htk2 : ((intsOf R).take kk ++ List.replicate (ns.length - kk) [C.int .i64 0] ++ (intsOf R).drop ns.length).take kk = intsOf (R.take kk) := by
        rw [List.append_assoc, List.take_append_of_le_length (by rw [List.length_take, intsOf_len]; omega), List.take_take, Nat.min_self, intsOf_take]
       have hl2 : ns.length ≤ ((intsOf R).take kk ++ List.replicate (ns.length - kk) [C.int .i64 0] ++ (intsOf R).drop ns.length).length := by
        simp only [List.length_append, List.length_take, List.length_replicate, List.length_drop, intsOf_len]; omega
       generalize (intsOf R).take kk ++ List.replicate (ns.length - kk) [C.int .i64 0] ++ (intsOf R).drop ns.length = R2 at *
       have kn : Kn H0 H3 E (B ++ [(z, .vec 1 R2)]) := by simpa using kn3
       have hz3 := kn.l B.length (l := z) (o := .vec 1 R2) (by simp)
       refine s_reg ?_
       simp only [go_sem, hz3, hl2, Nat.zero_add, Nat.sub_zero]
       refine ⟨by omega, ?_⟩
       refine c_ret ?_
       simp only [go_sem, X.next, endQ, retT, r_sl_Compact, List.mem_singleton, forall_eq, RS.op]
       have hrl : (intsOf (R.take kk)).length = kk := by rw [intsOf_len, List.length_take]; omega
       refine hK (.vsl z 1 0 kk) _ (R.take kk) H3 (.inr ⟨z, R2, ?_, rfl, ?_⟩) rfl kn hcm.asc (fun x => ?_) (by rw [List.length_take]; omega)
       ·rw [hrl]
       ·rw [hrl]; exact htk2
       ·rw [hcm.mem, List.take_length]
    ·intro hc3
     have hneq : ¬ ns.getD k 0 = ns.getD (k - 1) 0 := by simpa using hc3
     refine c_skip ?_
     simp only [go_sem]
     refine c_reg ?_
     simp only [go_sem, X.next]
     refine ⟨inR64 (by omega) (by omega), ns.length - (k + 1), by omega, k + 1, rfl, by omega, by omega, fun i h0 h1 => ?_, rfl⟩
     by_cases h : i < k
     ·exact hne i h0 h
     ·have : i = k := by omega
      subst this; exact hneq
   ·intro hc2
    have hge : ns.length ≤ k := by simpa using hc2
    refine c_exit ?_
    simp only [go_sem, X.next]
    refine s_reg ?_
    simp only [go_sem]
    refine c_ret ?_
    simp only [go_sem, endQ, retT, r_sl_Compact, List.mem_singleton, forall_eq, RS.op]
    exact hK _ _ ns H1 hgr.gw rfl kn (asc_of_ne hs fun i h0 hi => hne i h0 (by omega)) (fun _ => Iff.rfl) (Nat.le_refl _)
theorem once_c {fl : Bool} {ns : List Int} (hL : ns.length ≤ 2 ^ 38) (hK : ∀ ns' H', Upd H H' [] → ns'.Pairwise (· < ·) → (∀ x, x ∈ ns' ↔ x ∈ ns) → ns'.length ≤ ns.length → K (.c (.sl false 1 (intsOf ns'))) H') :
  ACall prog fn_im_once [.c (.sl fl 1 (intsOf ns))] H K := by
 refine acall_un ?_
 refine call_sound hmix m_im_once ?_
 refine s_reg ?_
 simp only [go_sem]
 refine s_reg ?_
 simp only [go_sem]
 refine Clone_c (Kn.start0 H) (by simp only [LIM]; omega) fun t Lg H1 hgr how kn => ?_
 simp only [go_sem, s_im_once_i0]
 refine s_reg ?_
 simp only [go_sem, how]
 refine Sort_c kn hgr fun Lg H2 hgr kn => ?_
 refine s_reg ?_
 simp only [go_sem, how]
 refine Compact_c kn hgr (srt_sorted ns) (by rw [srt_len]; exact hL) fun t2 Lg2 ns' H3 hgw how2 kn h1 h2 h3 => ?_
 simp only [go_sem, s_im_once_i1, how2]
 refine c_ret ?_
 simp only [go_sem, endQ, retT, r_im_once, List.mem_singleton, forall_eq, RS.op, how2]
 exact ⟨_, .c _ _ (hgw.frz kn), hK ns' _ kn.fin h1 (fun x => by rw [h2, srt_mem]) (by rw [srt_len] at h3; exact h3)⟩
end Go.AE.Y

namespace Go.AE.Y
open Go.Proofs.Tryz
variable {H H0 : Heap} {K : V → Heap → Prop} {E B Lg : List (Nat × Obj)}
noncomputable def headsL (n : Nat) (nx : Nat → List Int) : List Nat := if fitsB n nx then headL n (nxN nx) else []
noncomputable def loopL (n : Nat) (nx : Nat → List Int) (h : Int) : List Nat := if ((headsL n nx).map Int.ofNat).contains h then bodyL n (nxN nx) h.toNat else []
noncomputable def reachL (n : Nat) (nx : Nat → List Int) : List Nat := if fitsB n nx then (List.range n).filter (rchB (nxN nx) (-1)) else []
theorem headsL_not {n : Nat} {nx : Nat → List Int} (h : fitsB n nx = false) : headsL n nx = [] := by simp [headsL, h]
theorem headsL_fits {n : Nat} {nx : Nat → List Int} (h : fitsB n nx = true) : headsL n nx = headL n (nxN nx) := by simp [headsL, h]
theorem loopL_not {n : Nat} {nx : Nat → List Int} {h : Int} (hh : ((headsL n nx).map Int.ofNat).contains h = false) : loopL n nx h = [] := by rw [loopL, hh]; rfl
theorem headsL_mem {n : Nat} {nx : Nat → List Int} {h : Int} (hh : ((headsL n nx).map Int.ofNat).contains h = true) :
  ∃ k : Nat, h = k ∧ fitsB n nx = true ∧ k < n ∧ k ∈ headL n (nxN nx) ∧ rchB (nxN nx) (-1) k = true ∧ loopL n nx h = bodyL n (nxN nx) k := by
 have hl : loopL n nx h = bodyL n (nxN nx) h.toNat := by rw [loopL, hh, if_pos rfl]
 have hm := List.contains_iff_mem.1 hh
 obtain ⟨k, hk, rfl⟩ := List.mem_map.1 hm
 cases hf : fitsB n nx with
 | false => rw [headsL_not hf] at hk; simp at hk
 | true =>
  rw [headsL_fits hf] at hk
  obtain ⟨h1, p, _, h3⟩ := headL_mem.1 hk
  exact ⟨k, rfl, rfl, h1, hk, (domB_in h3).1, by rw [hl]; rfl⟩
theorem LoopBody_c {p rg : Int} {fl : Bool} {rows : List (List C)} {nx : Nat → List Int} {h : Int} (hg : GF rows nx)
  (hK : ∀ fl' H', Upd H H' [] → K (.c (.sl fl' 1 (natsOf (loopL rows.length nx h)))) H') :
  ACall prog fn_im_LoopBody [.ag [.int .i64 p, .int .i64 rg, .sl fl 5 rows], .c (.int .i64 h)] H K := by
 refine acall_un ?_
 refine call_sound hmix m_im_LoopBody ?_
 refine s_reg ?_
 simp only [go_sem]
 refine s_reg ?_
 simp only [go_sem]
 refine domsOf_c hg (fun hf H1 hu => ?_) (fun hf H1 hu => ?_)
 ·have kn := (Kn.start0 H).call0 hu
  simp only [go_sem, s_im_LoopBody_i0]
  refine c_as ?_
  refine s_reg ?_
  simp only [go_sem, C.isPtr, s_im_LoopBody_i2, s_im_LoopBody_i1]
  refine ⟨.inr trivial, ?_⟩
  refine c_seq (c_cond rfl (fun _ => ?_) (fun h => by simp at h))
  refine s_reg ?_
  simp only [go_sem]
  refine c_ret ?_
  simp only [go_sem, endQ, retT, r_im_LoopBody, List.mem_singleton, forall_eq, RS.op]
  have := hK false _ kn.fin
  rw [loopL_not (by rw [headsL_not hf]; rfl)] at this
  exact ⟨_, .c _ _ FrzR.nil.sl, this⟩
 ·have kn := (Kn.start0 H).call0 hu
  simp only [go_sem, s_im_LoopBody_i0]
  refine c_as ?_
  refine s_reg ?_
  simp only [go_sem, C.isPtr]
  refine ⟨.inl trivial, ?_⟩
  refine heads_c hg hf fun H2 hu => ?_
  have kn := kn.call0 hu
  simp only [go_sem, s_im_LoopBody_i2]
  refine Contains_c (ns := (headL rows.length (nxN nx)).map Int.ofNat) (.mk' _ _ _ _) rfl ?_
  simp only [go_sem, s_im_LoopBody_i1]
  refine c_seq (c_cond rfl (fun hc => ?_) (fun hc => ?_))
  ·have hc' : ((headL rows.length (nxN nx)).map Int.ofNat).contains h = false := by simpa using hc
   refine s_reg ?_
   simp only [go_sem]
   refine c_ret ?_
   simp only [go_sem, endQ, retT, r_im_LoopBody, List.mem_singleton, forall_eq, RS.op]
   have := hK false _ kn.fin
   rw [loopL_not (by rw [headsL_fits hf]; exact hc')] at this
   exact ⟨_, .c _ _ FrzR.nil.sl, this⟩
  ·have hc' : ((headsL rows.length nx).map Int.ofNat).contains h = true := by rw [headsL_fits hf]; simpa using hc
   obtain ⟨k, rfl, _, hk, _, hin, hl⟩ := headsL_mem hc'
   refine c_skip ?_
   simp only [go_sem]
   refine s_reg ?_
   simp only [go_sem]
   refine body_c hg hf hk hin fun fl' H3 hu => ?_
   have kn := kn.call0 hu
   simp only [go_sem, s_im_LoopBody_i4]
   refine c_ret ?_
   simp only [go_sem, endQ, retT, r_im_LoopBody, List.mem_singleton, forall_eq, RS.op]
   have := hK false _ kn.fin
   rw [hl] at this
   exact ⟨_, .c _ _ (frzc_sl (noOw_mem (natsOf_noOw _))), this⟩
end Go.AE.Y

namespace Go.AE.Y
open Go.Proofs.Tryz
variable {H H0 : Heap} {K : V → Heap → Prop} {E B Lg : List (Nat × Obj)}
theorem bools_ext {n : Nat} {S : List Bool} {f : Nat → Bool} (hl : S.length = n) (h : ∀ x, x < n → S.getD x false = f x) : S = (List.range n).map f := by
 refine List.ext_getElem (by simp [hl]) fun i h1 h2 => ?_
 have hi : i < n := by rw [← hl]; exact h1
 have := h i hi
 simp only [List.getD_eq_getElem?_getD, List.getElem?_eq_getElem h1, Option.getD_some] at this
 simp [this]
theorem all_of_dfs {n : Nat} {nx : Nat → List Int} {S : List Bool} {o : List Nat} (hf : fitsB n nx = true) (hd : Dfs (nxN nx) [0] (List.replicate n false) [] S o) : S = inL n (nxN nx) := by
 have hn0 := fitsB_pos hf
 have hgl : ∀ x, x < (List.replicate n false).length → ∀ y ∈ nxN nx x, y < (List.replicate n false).length := by
  rw [List.length_replicate]; exact fun x hx y hy => nxN_lt hf hx hy
 have hx0 : ∀ x ∈ [0], x < (List.replicate n false).length := by rw [List.length_replicate]; simpa using hn0
 have hl := hd.len
 rw [List.length_replicate] at hl
 refine bools_ext hl fun x hx => ?_
 have hs := hd.seen hgl hx0 x
 rw [replicate_getD] at hs
 simp only [Bool.false_eq_true, false_or, List.mem_singleton, exists_eq_left] at hs
 rw [Bool.eq_iff_iff, hs, rchB_iff]
 exact ⟨fun hr => hr.mono fun z hz => by omega, fun hr => hr.mono fun z hz => by rw [replicate_getD] at hz; simp at hz⟩
theorem without_of_dfs {n : Nat} {nx : Nat → List Int} {S : List Bool} {o : List Nat} {a : Nat} (hf : fitsB n nx = true) (ha : a < n) (hd : Dfs (nxN nx) [0] ((List.replicate n false).set a true) [] S o) :
  S.set a false = (List.range n).map (rchB (nxN nx) a) := by
 have hn0 := fitsB_pos hf
 have hgl : ∀ x, x < ((List.replicate n false).set a true).length → ∀ y ∈ nxN nx x, y < ((List.replicate n false).set a true).length := by
  rw [List.length_set, List.length_replicate]; exact fun x hx y hy => nxN_lt hf hx hy
 have hx0 : ∀ x ∈ [0], x < ((List.replicate n false).set a true).length := by rw [List.length_set, List.length_replicate]; simpa using hn0
 have hl := hd.len
 rw [List.length_set, List.length_replicate] at hl
 refine bools_ext (by rw [List.length_set]; exact hl) fun x hx => ?_
 have hs0 : ∀ z, ((List.replicate n false).set a true).getD z false = true ↔ z = a := by
  intro z
  rw [getD_set, List.length_replicate, replicate_getD]
  by_cases hz : z = a
  ·simp [hz, ha]
  ·simp [hz]
 have hset : (S.set a false).getD x false = if x = a then false else S.getD x false := by
  simp only [List.getD_eq_getElem?_getD, List.getElem?_set]
  by_cases hxa : a = x
  ·subst hxa; simp [hl, ha]
  ·have : ¬ x = a := fun h => hxa h.symm
   simp [hxa, this]
 rw [hset]
 by_cases hxa : x = a
 ·subst hxa
  rw [if_pos rfl, rchB_self]
 ·rw [if_neg hxa, Bool.eq_iff_iff, hd.seen hgl hx0 x, hs0, rchB_iff]
  simp only [hxa, false_or, List.mem_singleton, exists_eq_left]
  exact ⟨fun hr => hr.mono fun z hz => (hs0 z).2 (by omega), fun hr => hr.mono fun z hz => by have := (hs0 z).1 hz; omega⟩
theorem without0 {n : Nat} {g : Nat → List Nat} : ((List.replicate n false).set 0 true).set 0 false = (List.range n).map (rchB g (0 : Nat)) := by
 refine bools_ext (by simp) fun x hx => ?_
 have : rchB g ((0 : Nat) : Int) x = false := by
  cases hc : rchB g ((0 : Nat) : Int) x with
  | false => rfl
  | true => exact absurd rfl (rchB_iff.1 hc).fst
 rw [this, List.set_set]
 have : (List.replicate n false).set 0 false = List.replicate n false := by
  cases n with
  | zero => rfl
  | succ n => rfl
 rw [this, replicate_getD]
set_option maxHeartbeats 4000000 in
theorem l11Doms_c {p rg : Int} {fl : Bool} {rows : List (List C)} {nx : Nat → List Int} (hg : GF rows nx) (hf : fitsB rows.length nx = true)
  (hK : ∀ H', Upd H H' [] → K (.c (.sl false 1 (ovOf rows.length (nxN nx) rows.length))) H') :
  ACall prog fn_l11Doms [.ag [.int .i64 p, .int .i64 rg, .sl fl 5 rows]] H K := by
 have hn := hg.n
 have hn0 := fitsB_pos hf
 have hyb : ∀ (y : Nat) l a b d, C.sl fl 5 rows = .vsl l a b d → l ≠ y := by intro y l a b d h; cases h
 refine acall_un ?_
 refine call_sound hmix m_l11Doms ?_
 refine s_reg ?_
 simp only [go_sem]
 refine s_reg ?_
 simp only [go_sem]
 intro _
 refine s_reg ?_
 simp only [go_sem]
 refine s_reg ?_
 simp only [go_sem, boolsOf_replicate]
 refine ⟨by simp only [LIM]; omega, fun al hal H1 h1 => ?_⟩
 have kn : Kn H H1 [] ([(al, .vec 1 (boolsOf (List.replicate rows.length false)))] ++ []) := (Kn.start0 H).al hal h1
 simp only [go_sem, s_l11Doms_i0]
 refine s_reg ?_
 simp only [go_sem]
 refine l10Visit_c (F := H1) hf (by omega) (hg.grd H1 fl) (hyb al) rows.length 0 (List.replicate rows.length false) [] (.sl true 1 []) [] H1 _ (by simp) (by omega) hn0 (replicate_getD _ _) kn.mid (.nil 1) (by simp) fun S o oc Lg0 H2 hd k2 _ => ?_
 have kn : Kn H H2 [] [(al, .vec 1 (boolsOf (inL rows.length (nxN nx))))] := by
  have := (kn.comp k2 rfl).drop
  rw [all_of_dfs hf hd] at this
  exact this
 refine c_as ?_
 refine s_reg ?_
 simp only [go_sem]
 refine c_seq (c_block (c_loop (fun m e1 H1 => ∃ (ys : List Nat) (oc : C) (Lg : List (Nat × Obj)), m = rows.length - ys.length ∧ ys.length ≤ rows.length ∧ Gr Lg 1 (ysR rows.length ys) oc ∧
  Kn H H1 [] (([(al, .vec 1 (boolsOf (inL rows.length (nxN nx))))] ++ ysL rows.length (nxN nx) ys) ++ Lg) ∧
  e1 = [(1, .c (.pp [.int .i64 p, .int .i64 rg, .sl fl 5 rows])), (3, .c (.int .i64 rows.length)), (4, .c oc), (5, .c (.vsl al 1 0 rows.length)), (6, .c (.int .i64 ys.length))]) rows.length ?_ ?_))
 ·exact ⟨[], _, [], by simp, by simp, .nil 1, kn, rfl⟩
 ·rintro m e1 H3 ⟨ys, oc, Lg, hm, hi, hgr, kn, rfl⟩
  have hoc := hgr.isOw
  refine c_as ?_
  refine s_reg ?_
  simp only [go_sem, hoc]
  refine c_seq (c_cond rfl ?_ ?_)
  ·intro hc
   have hlt : ys.length < rows.length := by simpa using hc
   have hlti : ys.length < (inL rows.length (nxN nx)).length := by rw [inL_len]; exact hlt
   refine c_skip ?_
   simp only [go_sem]
   refine c_cut (fun e2 H4 => ∃ (oc : C) (Lg : List (Nat × Obj)) (y : Nat), Gr Lg 1 (ysR rows.length (ys ++ [y])) oc ∧
    Kn H H4 [] (([(al, .vec 1 (boolsOf (inL rows.length (nxN nx))))] ++ ysL rows.length (nxN nx) (ys ++ [y])) ++ Lg) ∧
    lk 1 e2 = .c (.pp [.int .i64 p, .int .i64 rg, .sl fl 5 rows]) ∧ lk 3 e2 = .c (.int .i64 rows.length) ∧ lk 4 e2 = .c oc ∧ lk 5 e2 = .c (.vsl al 1 0 rows.length) ∧ lk 6 e2 = .c (.int .i64 ys.length)) ?_ ?_
   ·intro Q hnr _ _
    refine c_block ?_
    refine s_reg ?_
    simp only [go_sem, hoc, boolsOf_replicate]
    refine ⟨by simp only [LIM]; omega, fun y2 hy2 H4 h4 => ?_⟩
    have kn : Kn H H4 [] ([(y2, .vec 1 (boolsOf (List.replicate rows.length false)))] ++ ([(al, .vec 1 (boolsOf (inL rows.length (nxN nx))))] ++ (ysL rows.length (nxN nx) ys ++ Lg))) :=
     (kn.al hy2 h4).perm (perm_of_add fun f hf h0 hc hp => by simp only [hf]; omega)
    have hy := kn.l 0 rfl
    have hr0 : ys.length < (List.replicate rows.length false).length := by rw [List.length_replicate]; exact hlt
    simp only [go_sem, s_l11Doms_i1]
    refine s_reg ?_
    have htk0 : ∀ (S : List Bool), S.length = rows.length → (boolsOf S).take rows.length = boolsOf S := fun S h => List.take_of_length_le (by rw [boolsOf_len]; omega)
    simp only [go_sem, hoc, hy, hlt, boolsOf_len, List.length_replicate, boolsOf_getD _ _ hr0, boolsOf_set, Nat.zero_add, Nat.le_refl]
    intro H5 h5
    have kn : Kn H H5 [] ([(y2, .vec 1 (boolsOf ((List.replicate rows.length false).set ys.length true)))] ++ ([(al, .vec 1 (boolsOf (inL rows.length (nxN nx))))] ++ (ysL rows.length (nxN nx) ys ++ Lg))) := kn.stL 0 rfl h5
    refine c_as ?_
    refine s_reg ?_
    simp only [go_sem, hoc]
    have rest : ∀ (e : Env) (H6 : Heap), lk 1 e = .c (.pp [.int .i64 p, .int .i64 rg, .sl fl 5 rows]) → lk 3 e = .c (.int .i64 rows.length) → lk 4 e = .c oc → lk 5 e = .c (.vsl al 1 0 rows.length) → lk 6 e = .c (.int .i64 ys.length) → lk 7 e = .c (.vsl y2 1 0 rows.length) →
      Kn H H6 [] ([(y2, .vec 1 (boolsOf ((List.range rows.length).map (rchB (nxN nx) ys.length))))] ++ ([(al, .vec 1 (boolsOf (inL rows.length (nxN nx))))] ++ (ysL rows.length (nxN nx) ys ++ Lg))) →
      codeT prog s_l11Doms_11 Q e H6 := by
     intro e H6 l1 l3 l4 l5 l6 l7 kn
     refine s_reg ?_
     simp only [go_sem, l1, l3, l4, l5, l6, l7, boolsOf_replicate]
     refine ⟨by simp only [LIM]; omega, fun y3 hy3 H7 h7 => ?_⟩
     have kn : Kn H H7 [] ([(y3, .vec 1 (boolsOf (List.replicate rows.length false)))] ++ ([(y2, .vec 1 (boolsOf ((List.range rows.length).map (rchB (nxN nx) ys.length))))] ++ ([(al, .vec 1 (boolsOf (inL rows.length (nxN nx))))] ++ (ysL rows.length (nxN nx) ys ++ Lg)))) :=
      (kn.al hy3 h7).perm (perm_of_add fun f hf h0 hc hp => by simp only [hf]; omega)
     simp only [go_sem, s_l11Doms_i4, l1, l3, l4, l5, l6, l7]
     refine c_as ?_
     refine s_reg ?_
     simp only [go_sem, hoc]
     refine c_seq (c_block (c_loop (fun m e1 H1 => ∃ b : Nat, m = rows.length - b ∧ b ≤ rows.length ∧
      Kn H H1 [] ([(y3, .vec 1 (boolsOf ((List.range b).map (domB (nxN nx) ys.length) ++ List.replicate (rows.length - b) false)))] ++ ([(y2, .vec 1 (boolsOf ((List.range rows.length).map (rchB (nxN nx) ys.length))))] ++ ([(al, .vec 1 (boolsOf (inL rows.length (nxN nx))))] ++ (ysL rows.length (nxN nx) ys ++ Lg)))) ∧
      e1 = [(1, .c (.pp [.int .i64 p, .int .i64 rg, .sl fl 5 rows])), (3, .c (.int .i64 rows.length)), (4, .c oc), (5, .c (.vsl al 1 0 rows.length)), (6, .c (.int .i64 ys.length)), (7, .c (.vsl y2 1 0 rows.length)), (8, .c (.vsl y3 1 0 rows.length)), (9, .c (.int .i64 b))]) rows.length ?_ ?_))
     ·exact ⟨0, by omega, by omega, by simpa using kn, rfl⟩
     ·rintro m2 e1 H8 ⟨b, hm2, hb, kn, rfl⟩
      have hy3 := kn.l 0 rfl
      have hy2 := kn.l 1 rfl
      have hal := kn.l 2 rfl
      have hyl : ((List.range b).map (domB (nxN nx) ys.length) ++ List.replicate (rows.length - b) false).length = rows.length := by simp; omega
      refine c_as ?_
      refine s_reg ?_
      simp only [go_sem, hoc]
      refine c_seq (c_cond rfl ?_ ?_)
      ·intro hc2
       have hbl : b < rows.length := by simpa using hc2
       have hbi : b < (inL rows.length (nxN nx)).length := by rw [inL_len]; exact hbl
       have hbr : b < ((List.range rows.length).map (rchB (nxN nx) ys.length)).length := by simpa using hbl
       have hby : b < ((List.range b).map (domB (nxN nx) ys.length) ++ List.replicate (rows.length - b) false).length := by rw [hyl]; exact hbl
       have t1 := htk0 (inL rows.length (nxN nx)) inL_len
       have t2 := htk0 ((List.range rows.length).map (rchB (nxN nx) ys.length)) (by simp)
       have t3 := htk0 _ hyl
       refine c_skip ?_
       simp only [go_sem]
       refine c_seq (c_block ?_)
       refine c_reg ?_
       simp only [go_sem, hoc, hy3, hy2, hal, hbl, hlt, t1, t2, t3, boolsOf_len, hyl, inL_len, List.length_map, List.length_range, boolsOf_getD _ _ hlti, inL_getD hlt, boolsOf_getD _ _ hbi, inL_getD hbl, boolsOf_getD _ _ hbr, map_range_getD _ _ hbl, boolsOf_getD _ _ hby, boolsOf_set, Nat.zero_add, Nat.le_refl]
       intro H9 h9
       have kn := kn.stL 0 rfl h9
       refine c_reg ?_
       simp only [go_sem, hoc, X.next]
       refine ⟨inR64 (by omega) (by omega), rows.length - (b + 1), by omega, b + 1, rfl, by omega, ?_, rfl⟩
       rw [← map_take_set _ _ hbl]
       have : domB (nxN nx) ys.length b = (bif (bif rchB (nxN nx) (-1) ys.length then rchB (nxN nx) (-1) b else false) then !rchB (nxN nx) (↑ys.length) b else false) := by
        simp only [domB]
        cases rchB (nxN nx) (-1) ys.length <;> cases rchB (nxN nx) (-1) b <;> rfl
       rw [this]
       exact kn
      ·intro hc2
       have hbe : b = rows.length := by have : ¬ b < rows.length := (by simpa using hc2); omega
       subst hbe
       refine c_exit ?_
       simp only [go_sem, X.next]
       refine c_reg ?_
       simp only [go_sem, hoc]
       have kn : Kn H H8 [] (([(al, .vec 1 (boolsOf (inL rows.length (nxN nx))))] ++ ysL rows.length (nxN nx) (ys ++ [y3])) ++ Lg) := by
        have hrow : (List.range rows.length).map (domB (nxN nx) ys.length) ++ List.replicate (rows.length - rows.length) false = domRow rows.length (nxN nx) ys.length := by simp [domRow]
        rw [hrow] at kn
        have := kn.perm (L' := (([(al, .vec 1 (boolsOf (inL rows.length (nxN nx))))] ++ ysL rows.length (nxN nx) (ys ++ [y3])) ++ Lg) ++ [(y2, .vec 1 (boolsOf ((List.range rows.length).map (rchB (nxN nx) ys.length))))]) (perm_of_add fun f hf h0 hc hp => by simp only [ysL_snoc, hf]; omega)
        exact this.drop
       refine kn.growR (new := [[.vsl y3 1 0 rows.length]]) hgr (.mk' _ _ _ _) (by simp [Go.AE.noOw, C.isOw]) (by simp only [ysR_len, LIM, List.length_cons, List.length_nil]; omega) fun t Lg' H9 hgr ht kn => ?_
       simp only [go_sem, s_l11Doms_i8, ht]
       refine hnr _ _ ⟨t, Lg', y3, ?_, kn, rfl, rfl, rfl, rfl, rfl⟩
       rw [ysR_snoc]; exact hgr
    refine c_seq (c_cond rfl ?_ ?_)
    ·intro ha
     have ha0 : ys.length ≠ 0 := by simpa using ha
     refine s_reg ?_
     simp only [go_sem, hoc]
     refine l10Visit_c (F := H5) hf (by omega) (hg.grd H5 fl) (hyb y2) rows.length 0 ((List.replicate rows.length false).set ys.length true) [] (.sl true 1 []) [] H5 _ (by simp) (by omega) hn0 (by rw [getD_set, replicate_getD, if_neg (by omega)]) kn.mid (.nil 1) (by simp) fun S o oc' Lg0 H6 hd k2 _ => ?_
     have hSl := hd.len
     rw [List.length_set, List.length_replicate] at hSl
     have kn : Kn H H6 [] ([(y2, .vec 1 (boolsOf S))] ++ ([(al, .vec 1 (boolsOf (inL rows.length (nxN nx))))] ++ (ysL rows.length (nxN nx) ys ++ Lg))) := (kn.comp k2 rfl).drop
     have hy := kn.l 0 rfl
     have hyS : ys.length < S.length := by omega
     refine c_reg ?_
     simp only [go_sem, hoc, hy, hlt, boolsOf_len, hSl, htk0 S hSl, boolsOf_getD _ _ hyS, boolsOf_set, Nat.zero_add, Nat.le_refl]
     intro H7 h7
     have kn := kn.stL 0 rfl h7
     refine rest _ H7 rfl rfl rfl rfl rfl rfl ?_
     rw [← without_of_dfs hf hlt hd]; exact kn
    ·intro ha
     have ha0 : ys.length = 0 := by simpa using ha
     have hy := kn.l 0 rfl
     have hyS : ys.length < ((List.replicate rows.length false).set ys.length true).length := by simpa using hlt
     refine c_reg ?_
     simp only [go_sem, hoc, hy, hlt, boolsOf_len, List.length_set, List.length_replicate, boolsOf_getD _ _ hyS, boolsOf_set, Nat.zero_add, Nat.le_refl]
     intro H7 h7
     have kn := kn.stL 0 rfl h7
     refine rest _ H7 rfl rfl rfl rfl rfl rfl ?_
     have := without0 (n := rows.length) (g := nxN nx)
     rw [ha0] at kn ⊢
     rw [← this]; exact kn
   ·rintro e2 H4 ⟨oc2, Lg2, y, hgr, kn, l1, l3, l4, l5, l6⟩
    refine c_reg ?_
    simp only [go_sem, X.next, l1, l3, l4, l5, l6]
    exact ⟨inR64 (by omega) (by omega), rows.length - (ys.length + 1), by omega, ys ++ [y], oc2, Lg2, by simp, by simp; omega, hgr, kn, by simp⟩
  ·intro hc
   have hge : ys.length = rows.length := by have : ¬ ys.length < rows.length := (by simpa using hc); omega
   refine c_exit ?_
   simp only [go_sem, X.next]
   refine s_reg ?_
   simp only [go_sem, hoc]
   refine c_ret ?_
   simp only [go_sem, endQ, retT, r_l11Doms, List.mem_singleton, forall_eq, RS.op, hoc]
   have hfr := ys_frz' (H := H3) (S := un H) (n := rows.length) (g := nxN nx) ys (fun q hq => ⟨(kn.get q (by simp [hq])).1, un_free (kn.loc q (by simp [hq]))⟩)
   rw [hge] at hfr
   exact ⟨_, .c _ _ (hgr.frzR kn hfr), hK _ kn.fin⟩
end Go.AE.Y

