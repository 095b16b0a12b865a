/- Part 4 of the proof: the engine, codes, walks and plain laws, each named where it stands. -/
import Derived.Test.YtajdffbgjodbfaaGreatZC
open Nat (reduceEqDiff reduceAdd reduceLeDiff reduceLT)
set_option linter.unusedVariables false
set_option linter.unusedSimpArgs false
set_option maxRecDepth 4000
namespace Go.AE.Y
open Go.Proofs.Tryz
variable {H : Heap} {K : V → Heap → Prop}
theorem InsD.take4 (x : InsD) : x.cells.take 4 = x.cells := rfl
theorem InsD.allOw (x : InsD) : (x.cells.all fun c => !c.isOw) = true := rfl
theorem InsD.len4 (x : InsD) : x.cells.length = 4 := rfl
theorem Qa9f (l : List BlkD) (i : Nat) (h : i < (Qq l).length) : ∃ a1 a2 a3 a4 fl, (Qq l).getD i [] = [a1, a2, a3, a4, .sl fl 1 (Qh ((l.map BlkD.next).getD i []))] := by
 rw [Qk] at h
 rw [Q3 _ _ h]
 have : (l.map BlkD.next).getD i [] = l[i].next := by simp [List.getD_eq_getElem?_getD, h]
 exact ⟨.sl false 2 (Qbi l[i].phis), .sl false 4 (Qbz l[i].ins), .int .i64 l[i].jump, .int .i64 l[i].on, false, by rw [this]; rfl⟩
set_option maxHeartbeats 3000000 in
theorem Q5r {α : Type} {p : α → Bool} {l : List α} {i : Nat} (hi : i < l.length) : (l.take (i + 1)).all p = ((l.take i).all p && p l[i]) := by
 rw [List.take_succ_eq_append_getElem hi, List.all_append]; simp
theorem Qair {α : Type} {p : α → Bool} {l : List α} {i : Nat} (hi : i < l.length) (h : p l[i] = false) : l.all p = false := by
 cases hc : l.all p with
 | false => rfl
 | true => rw [List.all_eq_true.1 hc _ (List.getElem_mem hi)] at h; exact absurd h (by simp)
def Qnk (j : Int) : Int := if j = 1 then 1 else if j = 2 then 2 else if j = 3 then 0 else -1
def Qrl (rg : Int) (y : BlkD) : Bool := decide ((y.next.length : Int) = Qnk y.jump) && if y.jump = 1 then decide (y.on = 0) else decide (0 ≤ y.on ∧ y.on ≤ rg - 1)
def Q3k (n : Nat) (x : Int) : Bool := decide (1 ≤ x ∧ x ≤ (n : Int) - 1)
def phiG (rg : Int) (np b : Nat) (x : PhiD) : Bool := !decide (b = 0) && decide ((x.args.length : Int) = np) && Qo5 rg x.args && decide (0 ≤ x.to ∧ x.to ≤ rg - 1)
def blkG (cs : List CodeD) (k b : Nat) (q : CodeD) (y : BlkD) : Bool :=
 Qrl q.regs y && y.next.all (Q3k (Qq q.blocks).length) && y.ins.all (insG cs k) && y.phis.all (phiG q.regs (Qam (fun i => (q.blocks.map BlkD.next).getD i []) (b : Int) (Qq q.blocks).length).length b)
theorem Qa12 {cs : List CodeD} {k b : Nat} {q : CodeD} {y : BlkD} (h : blkG cs k b q y = true) : y.next.length ≤ 2 := by
 simp only [blkG, Qrl, Bool.and_eq_true, decide_eq_true_eq] at h
 have := h.1.1.1.1
 rw [Qnk] at this
 split at this
 ·omega
 ·split at this
  ·omega
  ·split at this <;> omega
set_option maxHeartbeats 1000000 in
theorem Qa2y {cs : List CodeD} {fl : Bool} {k b : Nat} (hk : k < cs.length) (hbk : b < cs[k].blocks.length) (hr : 0 ≤ cs[k].regs) (hr2 : cs[k].regs ≤ 300) (hcl : cs.length ≤ 100) (hbl : cs[k].blocks.length ≤ 200) (hK : ∀ (H' : Heap), Upd H H' [] → K (.c (.bool (blkG cs k b cs[k] cs[k].blocks[b]))) H') :
  Qo prog Qx5 [.ag [.sl fl 3 (Qm cs)], .c (.int .i64 k), .c (.int .i64 b)] H K := by
 refine Q0 ?_
 refine Qb Qas Qa3g ?_
 have retf : ∀ (v : Bool) (e : Env) (H' : Heap) (L : List (Nat × Obj)), blkG cs k b cs[k] cs[k].blocks[b] = v → Kn H H' [] L → lk 6 e = .c (.bool v) → Qz Qjh (fun x H' => ∃ x', FrzV H' (un H) x x' ∧ K x' (H'.frz (un H))) .ret e H' := by
  intro v e H' L hb kn h3
  simp only [go_sem, Qz, Q9, Qjh, List.mem_singleton, forall_eq, RS.op, h3, reduceIte, reduceEqDiff, reduceAdd, reduceLeDiff, reduceLT, reduceCtorEq]
  rw [← hb]; exact ⟨_, .c _ _ (Qi rfl), hK _ kn.fin⟩
 refine Qa ?_
 simp only [go_sem, reduceIte, reduceEqDiff, reduceAdd, reduceLeDiff, reduceLT, reduceCtorEq]
 refine Qa ?_
 simp only [go_sem, hk, Qr, Qy _ _ hk, CodeD.cells, reduceIte, reduceEqDiff, reduceAdd, reduceLeDiff, reduceLT, reduceCtorEq]
 intro x7 hx7 H1 h1
 have kn := (Kn.start0 H).al hx7 h1
 have hx71 := kn.l 0 rfl
 simp only [go_sem, Q2s, hx71, reduceIte, reduceEqDiff, reduceAdd, reduceLeDiff, reduceLT, reduceCtorEq]
 intro H2 h2
 have kn := kn.stL 0 rfl h2
 have hx72 := kn.l 0 rfl
 refine Qa ?_
 simp only [go_sem, hx72, hbk, Qk, Q3 _ _ hbk, BlkD.cells, reduceIte, reduceEqDiff, reduceAdd, reduceLeDiff, reduceLT, reduceCtorEq]
 obtain ⟨y, hy⟩ : ∃ y, cs[k].blocks[b] = y := ⟨_, rfl⟩
 rw [hy]
 intro x8 hx8 H3 h3
 have kn := kn.al hx8 h3
 have hx83 := kn.l 1 rfl
 simp only [go_sem, Q2t, hx83, reduceIte, reduceEqDiff, reduceAdd, reduceLeDiff, reduceLT, reduceCtorEq]
 intro H4 h4
 have kn : Kn H H4 [] [(x7, .st [.int .i64 cs[k].params, .int .i64 cs[k].regs, .sl false 5 (Qq cs[k].blocks)]), (x8, .st [.sl false 2 (Qbi y.phis), .sl false 4 (Qbz y.ins), .int .i64 y.jump, .int .i64 y.on, .sl false 1 (Qh y.next)])] := kn.stL 1 rfl h4
 obtain ⟨q, hq⟩ : ∃ q, cs[k] = q := ⟨_, rfl⟩
 have hGe : blkG cs k b cs[k] cs[k].blocks[b] = blkG cs k b q y := by rw [hy, hq]
 rw [hGe] at retf
 rw [hq] at kn hr hr2 hbk hbl
 generalize hnp : (Qam (fun i => (q.blocks.map BlkD.next).getD i []) (b : Int) (Qq q.blocks).length).length = np
 have hGd : blkG cs k b q y = (Qrl q.regs y && y.next.all (Q3k (Qq q.blocks).length) && y.ins.all (insG cs k) && y.phis.all (phiG q.regs np b)) := by rw [blkG, hnp]
 refine Qa ?_
 simp only [go_sem, reduceIte, reduceEqDiff, reduceAdd, reduceLeDiff, reduceLT, reduceCtorEq]
 have hx74 := kn.l 0 rfl
 have hx84 := kn.l 1 rfl
 refine Q2 ?_
 refine Qa ?_
 simp only [go_sem, hx84, reduceIte, reduceEqDiff, reduceAdd, reduceLeDiff, reduceLT, reduceCtorEq]
 have rest31 : ∀ (want : Int) (E1 : Env), Qnk y.jump = want → (y.jump = 1 → y.on = 0) → lk 1 E1 = .c (.int .i64 k) → lk 2 E1 = .c (.int .i64 b) → lk 3 E1 = .c (.pp [.sl fl 3 (Qm cs)]) → lk 7 E1 = .c (.ptr x7 0) → lk 8 E1 = .c (.ptr x8 0) → lk 9 E1 = .c (.int .i64 want) →
   Qae prog Q2r (Qz Qjh (fun x H' => ∃ x', FrzV H' (un H) x x' ∧ K x' (H'.frz (un H)))) E1 H4 := by
  intro want E1 hw hjo l1 l2 l3 l7 l8 l9
  refine Q2 ?_
  refine Qa ?_
  simp only [go_sem, l1, l2, l3, l7, l8, l9, hx74, hx84, Qe, reduceIte, reduceEqDiff, reduceAdd, reduceLeDiff, reduceLT, reduceCtorEq]
  intro hnl
  simp only [LIM] at hnl
  refine ⟨fun _ => Qn (by omega) (by omega), ?_⟩
  have rest8 : ∀ (b1 : Bool) (E1 : Env), Qrl q.regs y = (!b1) → lk 1 E1 = .c (.int .i64 k) → lk 2 E1 = .c (.int .i64 b) → lk 3 E1 = .c (.pp [.sl fl 3 (Qm cs)]) → lk 7 E1 = .c (.ptr x7 0) → lk 8 E1 = .c (.ptr x8 0) → lk 53 E1 = .c (.bool b1) →
    Qae prog (s_l7Block_8.seq Q2q) (Qz Qjh (fun x H' => ∃ x', FrzV H' (un H) x x' ∧ K x' (H'.frz (un H)))) E1 H4 := by
   intro b1 E1 hn2 l1 l2 l3 l7 l8 l53
   refine Qg (Qd l53 ?_ ?_)
   ·intro hc
    refine Qa ?_
    simp only [go_sem, reduceIte, reduceEqDiff, reduceAdd, reduceLeDiff, reduceLT, reduceCtorEq]
    refine Qj ?_
    simp only [go_sem]
    exact retf false _ _ _ (by rw [hGd, hn2, hc]; simp) kn (by simp [lk])
   intro hbf
   rw [hbf] at hn2
   refine Qf ?_
   simp only [go_sem]
   refine Q2 ?_
   refine Qa ?_
   simp only [go_sem, l1, l2, l3, l7, l8, reduceIte, reduceEqDiff, reduceAdd, reduceLeDiff, reduceLT, reduceCtorEq]
   refine Qg (Qc (Qt (fun n e1 H1 => ∃ (i : Nat), n = y.next.length - i ∧ i ≤ y.next.length ∧ H1 = H4 ∧ (y.next.take i).all (Q3k (Qq q.blocks).length) = true ∧ e1 = [(1, .c (.int .i64 k)), (2, .c (.int .i64 b)), (3, .c (.pp [.sl fl 3 (Qm cs)])), (7, .c (.ptr x7 0)), (8, .c (.ptr x8 0)), (10, .c (.int .i64 i))]) y.next.length ?_ ?_))
   ·exact ⟨0, by omega, by omega, rfl, rfl, rfl⟩
   ·rintro n e1 H1 ⟨i, hn1, hi, rfl, hall1, rfl⟩
    refine Q2 ?_
    refine Qa ?_
    simp only [go_sem, hx84, Qe, reduceIte, reduceEqDiff, reduceAdd, reduceLeDiff, reduceLT, reduceCtorEq]
    refine fun _ => ?_
    refine Qg (Qd rfl ?_ ?_)
    ·intro hc
     have hlt : i < y.next.length := by simpa using hc
     have hgd : y.next.getD i 0 = y.next[i] := by simp [List.getD_eq_getElem?_getD, hlt]
     have hng : Q3k (Qq q.blocks).length y.next[i] = decide (1 ≤ y.next.getD i 0 ∧ y.next.getD i 0 ≤ (q.blocks.length : Int) - 1) := by rw [hgd, Q3k, Qk]
     refine Qf ?_
     simp only [go_sem]
     refine Qg (Qc ?_)
     refine Qar ?_
     simp only [go_sem, hx84, hx74, hlt, Qe, Qx _ _ hlt, Qk, reduceIte, reduceEqDiff, reduceAdd, reduceLeDiff, reduceLT, reduceCtorEq]
     refine ⟨Qn (by omega) (by omega), ?_⟩
     refine Qc6 ?_
     simp only [go_sem, Q2u, reduceIte, reduceEqDiff, reduceAdd, reduceLeDiff, reduceLT, reduceCtorEq]
     refine Qd rfl ?_ ?_
     ·intro hc2
      refine Qa ?_
      simp only [go_sem, reduceIte, reduceEqDiff, reduceAdd, reduceLeDiff, reduceLT, reduceCtorEq]
      refine Qj ?_
      simp only [go_sem, X.next]
      exact retf false _ _ _ (by rw [hGd, Qair hlt (by rw [hng]; exact Qnl hc2)]; simp) kn (by simp [lk])
     ·intro hc2
      refine Qf ?_
      simp only [go_sem]
      refine Qp ?_
      simp only [go_sem, X.next, reduceIte, reduceEqDiff, reduceAdd, reduceLeDiff, reduceLT, reduceCtorEq]
      exact ⟨Qn (by omega) (by omega), y.next.length - (i + 1), by omega, i + 1, rfl, by omega, by rw [Q5r hlt, ← Qk q.blocks, hall1, hng, Qeq hc2]; rfl, rfl⟩
    ·intro hc
     have hge : y.next.length ≤ i := by simpa using hc
     rw [List.take_of_length_le hge] at hall1
     refine Qs ?_
     simp only [go_sem, X.next]
     refine Q2 ?_
     refine Qa ?_
     simp only [go_sem, reduceIte, reduceEqDiff, reduceAdd, reduceLeDiff, reduceLT, reduceCtorEq]
     refine Qg (Qc (Qt (fun n e1 H1 => ∃ (i : Nat), n = y.ins.length - i ∧ i ≤ y.ins.length ∧ Kn H H1 [] [(x7, .st [.int .i64 q.params, .int .i64 q.regs, .sl false 5 (Qq q.blocks)]), (x8, .st [.sl false 2 (Qbi y.phis), .sl false 4 (Qbz y.ins), .int .i64 y.jump, .int .i64 y.on, .sl false 1 (Qh y.next)])] ∧ (y.ins.take i).all (insG cs k) = true ∧
      e1 = [(1, .c (.int .i64 k)), (2, .c (.int .i64 b)), (3, .c (.pp [.sl fl 3 (Qm cs)])), (7, .c (.ptr x7 0)), (8, .c (.ptr x8 0)), (11, .c (.int .i64 i))]) y.ins.length ?_ ?_))
     ·exact ⟨0, by omega, by omega, kn, rfl, rfl⟩
     ·rintro n e1 H5 ⟨i, hn1, hi, kn, hall2, rfl⟩
      have hx75 := kn.l 0 rfl
      have hx85 := kn.l 1 rfl
      refine Q2 ?_
      refine Qa ?_
      simp only [go_sem, hx85, Qaf, reduceIte, reduceEqDiff, reduceAdd, reduceLeDiff, reduceLT, reduceCtorEq]
      intro hil
      simp only [LIM] at hil
      refine Qg (Qd rfl ?_ ?_)
      ·intro hc
       have hlt : i < y.ins.length := by simpa using hc
       refine Qf ?_
       simp only [go_sem]
       refine Qg (Qc ?_)
       refine Qar ?_
       simp only [go_sem, hx85, hx75, hlt, Qaf, Qcg _ _ hlt, InsD.take4, InsD.allOw, InsD.len4, reduceIte, reduceEqDiff, reduceAdd, reduceLeDiff, reduceLT, reduceCtorEq]
       refine Qbab hk (by rw [hq]; omega) (by rw [hq]; omega) hcl fun H6 hu => ?_
       have kn := kn.call0 hu
       simp only [go_sem, Qv8, reduceIte, reduceEqDiff, reduceAdd, reduceLeDiff, reduceLT, reduceCtorEq]
       refine Qd rfl ?_ ?_
       ·intro hc2
        refine Qa ?_
        simp only [go_sem, reduceIte, reduceEqDiff, reduceAdd, reduceLeDiff, reduceLT, reduceCtorEq]
        refine Qj ?_
        simp only [go_sem, X.next]
        exact retf false _ _ _ (by rw [hGd, Qair hlt (Qnl hc2)]; simp) kn (by simp [lk])
       ·intro hc2
        refine Qf ?_
        simp only [go_sem]
        refine Qp ?_
        simp only [go_sem, X.next, reduceIte, reduceEqDiff, reduceAdd, reduceLeDiff, reduceLT, reduceCtorEq]
        exact ⟨Qn (by omega) (by omega), y.ins.length - (i + 1), by omega, i + 1, rfl, by omega, kn, by rw [Q5r hlt, hall2, Qeq hc2]; rfl, rfl⟩
      ·intro hc
       have hge : y.ins.length ≤ i := by simpa using hc
       rw [List.take_of_length_le hge] at hall2
       refine Qs ?_
       simp only [go_sem, X.next]
       refine Qa ?_
       simp only [go_sem, hx75, reduceIte, reduceEqDiff, reduceAdd, reduceLeDiff, reduceLT, reduceCtorEq]
       refine Q62 (rows := Qq q.blocks) (nx := fun i => (q.blocks.map BlkD.next).getD i []) (.mk' _ _ _ _) rfl (Qa9f q.blocks) fun H6 hu => ?_
       have kn := kn.call0 hu
       simp only [go_sem, Qv9, reduceIte, reduceEqDiff, reduceAdd, reduceLeDiff, reduceLT, reduceCtorEq]
       refine Q2 ?_
       refine Qa ?_
       simp only [go_sem, reduceIte, reduceEqDiff, reduceAdd, reduceLeDiff, reduceLT, reduceCtorEq]
       obtain ⟨ps, hps⟩ : ∃ ps, Qam (fun i => (q.blocks.map BlkD.next).getD i []) (b : Int) (Qq q.blocks).length = ps := ⟨_, rfl⟩
       rw [hps]
       rw [hps] at hnp
       have hx76 := kn.l 0 rfl
       have hx86 := kn.l 1 rfl
       refine Qg (Qc (Qt (fun n e1 H1 => ∃ (i : Nat), n = y.phis.length - i ∧ i ≤ y.phis.length ∧ H1 = H6 ∧ (y.phis.take i).all (phiG q.regs np b) = true ∧
        e1 = [(2, .c (.int .i64 b)), (7, .c (.ptr x7 0)), (8, .c (.ptr x8 0)), (12, .c (.sl false 1 (Qh ps))), (13, .c (.int .i64 i))]) y.phis.length ?_ ?_))
       ·exact ⟨0, by omega, by omega, rfl, rfl, rfl⟩
       ·rintro n e1 H7 ⟨i, hn1, hi, rfl, hall3, rfl⟩
        refine Q2 ?_
        refine Qa ?_
        simp only [go_sem, hx86, Qah, reduceIte, reduceEqDiff, reduceAdd, reduceLeDiff, reduceLT, reduceCtorEq]
        intro hpl
        simp only [LIM] at hpl
        refine Qg (Qd rfl ?_ ?_)
        ·intro hc
         have hlt : i < y.phis.length := by simpa using hc
         refine Qf ?_
         simp only [go_sem]
         refine Qg (Qc ?_)
         have fin : ∀ (b3 : Bool) (E1 : Env), phiG q.regs np b y.phis[i] = (!b3) → lk 2 E1 = .c (.int .i64 b) → lk 7 E1 = .c (.ptr x7 0) → lk 8 E1 = .c (.ptr x8 0) → lk 12 E1 = .c (.sl false 1 (Qh ps)) → lk 13 E1 = .c (.int .i64 i) → lk 135 E1 = .c (.bool b3) →
           Qae prog Q2n (X.inBlock 6 (X.sq prog Q2o (X.next (fun e2 H2 => ∃ m, m < n ∧ ∃ (i : Nat), m = y.phis.length - i ∧ i ≤ y.phis.length ∧ H2 = H7 ∧ (y.phis.take i).all (phiG q.regs np b) = true ∧
            e2 = [(2, .c (.int .i64 b)), (7, .c (.ptr x7 0)), (8, .c (.ptr x8 0)), (12, .c (.sl false 1 (Qh ps))), (13, .c (.int .i64 i))]) (X.inBlock 5 (X.sq prog Q2p (Qz Qjh (fun x H' => ∃ x', FrzV H' (un H) x x' ∧ K x' (H'.frz (un H))))))))) E1 H7 := by
          intro b3 E1 hph l2 l7 l8 l12 l13 l135
          refine Qd l135 ?_ ?_
          ·intro hc2
           refine Qa ?_
           simp only [go_sem, reduceIte, reduceEqDiff, reduceAdd, reduceLeDiff, reduceLT, reduceCtorEq]
           refine Qj ?_
           simp only [go_sem, X.next]
           exact retf false _ _ _ (by rw [hGd, Qair hlt (by rw [hph, hc2]; rfl)]; simp) kn (by simp [lk])
          ·intro hc2
           refine Qf ?_
           simp only [go_sem]
           refine Qp ?_
           simp only [go_sem, X.next, l2, l7, l8, l12, l13, reduceIte, reduceEqDiff, reduceAdd, reduceLeDiff, reduceLT, reduceCtorEq]
           exact ⟨Qn (by omega) (by omega), y.phis.length - (i + 1), by omega, i + 1, rfl, by omega, by rw [Q5r hlt, hall3, hph, hc2]; rfl, rfl⟩
         refine Qar ?_
         simp only [go_sem, hx86, hx76, hlt, Qah, Qbf _ _ hlt, PhiD.cells, Qe, reduceIte, reduceEqDiff, reduceAdd, reduceLeDiff, reduceLT, reduceCtorEq]
         refine ⟨fun hb1 => ?_, fun hb1 => ?_⟩
         ·refine Qaxv (by omega) (by omega) ?_
          simp only [go_sem, Qlf, hx86, hx76, hlt, Qah, Qbf _ _ hlt, PhiD.cells, reduceIte, reduceEqDiff, reduceAdd, reduceLeDiff, reduceLT, reduceCtorEq]
          refine ⟨fun _ => Qn (by omega) (by omega), ?_⟩
          refine ⟨fun hb2 => ?_, fun hb2 => ?_⟩
          ·refine Qc6 ?_
           simp only [go_sem, Qfc, reduceIte, reduceEqDiff, reduceAdd, reduceLeDiff, reduceLT, reduceCtorEq]
           refine fin _ _ ?_ (by simp [lk]) (by simp [lk]) (by simp [lk]) (by simp [lk]) (by simp [lk]) (by simp [lk]; rfl)
           simp [phiG, ← hnp]
          ·replace hb2 := Qeq hb2
           simp only [go_sem, Qfc, hb2, reduceIte, reduceEqDiff, reduceAdd, reduceLeDiff, reduceLT, reduceCtorEq]
           refine fin true _ ?_ (by simp [lk]) (by simp [lk]) (by simp [lk]) (by simp [lk]) (by simp [lk]) (by simp [lk])
           subst hnp
           simp at hb2
           simp [phiG]
           intro h1 h2 h3
           simp [h1, h2, h3] at hb2
         ·replace hb1 := Qeq hb1
          simp only [go_sem, Qlf, Qfc, hb1, hx86, hx76, hlt, Qah, Qbf _ _ hlt, PhiD.cells, reduceIte, reduceEqDiff, reduceAdd, reduceLeDiff, reduceLT, reduceCtorEq]
          refine fin true _ ?_ (by simp [lk]) (by simp [lk]) (by simp [lk]) (by simp [lk]) (by simp [lk]) (by simp [lk])
          subst hnp
          simp at hb1
          simp [phiG]
          intro h1 h2 h3
          simp [h1, h2] at hb1
        ·intro hc
         have hge : y.phis.length ≤ i := by simpa using hc
         rw [List.take_of_length_le hge] at hall3
         refine Qs ?_
         simp only [go_sem, X.next]
         refine Qa ?_
         simp only [go_sem, reduceIte, reduceEqDiff, reduceAdd, reduceLeDiff, reduceLT, reduceCtorEq]
         refine Qj ?_
         exact retf true _ _ _ (by rw [hGd, hn2, hall1, hall2, hall3]; rfl) kn (by simp [lk])
  refine ⟨fun hb1 => ?_, fun hb1 => ?_⟩
  ·refine Qc6 ?_
   simp only [go_sem, Qhk, hb1, l1, l2, l3, l7, l8, reduceIte, reduceEqDiff, reduceAdd, reduceLeDiff, reduceLT, reduceCtorEq]
   refine rest8 _ _ ?_ (by simp [lk]) (by simp [lk]) (by simp [lk]) (by simp [lk]) (by simp [lk]) (by simp [lk]; rfl)
   by_cases hlw : (y.next.length : Int) = want
   ·by_cases hj : y.jump = 1
    ·simp [hlw, hj] at hb1
    ·simp [Qrl, hw, hlw, hj]
   ·simp [hlw] at hb1
  ·by_cases hlw : (y.next.length : Int) = want
   ·by_cases hj : y.jump = 1
    ·simp only [go_sem, Qhk, hlw, hj, l1, l2, l3, l7, l8, decide_true, decide_false, cond_true, cond_false, reduceIte, reduceEqDiff, reduceAdd, reduceLeDiff, reduceLT, reduceCtorEq]
     have hw1 : Qnk 1 = want := by rw [← hj]; exact hw
     refine rest8 _ _ ?_ (by simp [lk]) (by simp [lk]) (by simp [lk]) (by simp [lk]) (by simp [lk]) (by simp [lk]; rfl)
     simp [Qrl, hw1, hlw, hj, hjo hj]
    ·simp [hlw, hj] at hb1
   ·simp only [go_sem, Qhk, hlw, l1, l2, l3, l7, l8, decide_true, decide_false, cond_true, cond_false, reduceIte, reduceEqDiff, reduceAdd, reduceLeDiff, reduceLT, reduceCtorEq]
    by_cases hj : y.jump = 1
    ·simp only [go_sem, hj, decide_true, decide_false, cond_true, cond_false, reduceIte, reduceEqDiff, reduceAdd, reduceLeDiff, reduceLT, reduceCtorEq]
     exact rest8 true _ (by simp [Qrl, hw, hlw]) (by simp [lk]) (by simp [lk]) (by simp [lk]) (by simp [lk]) (by simp [lk]) (by simp [lk])
    ·simp only [go_sem, hj, decide_true, decide_false, cond_true, cond_false, reduceIte, reduceEqDiff, reduceAdd, reduceLeDiff, reduceLT, reduceCtorEq]
     exact rest8 true _ (by simp [Qrl, hw, hlw]) (by simp [lk]) (by simp [lk]) (by simp [lk]) (by simp [lk]) (by simp [lk]) (by simp [lk])
 refine Qg (Qc ?_)
 refine Qa ?_
 simp only [go_sem, reduceIte, reduceEqDiff, reduceAdd, reduceLeDiff, reduceLT, reduceCtorEq]
 refine Qd rfl ?_ ?_
 ·intro hc
  refine Qa ?_
  simp only [go_sem, hx84, reduceIte, reduceEqDiff, reduceAdd, reduceLeDiff, reduceLT, reduceCtorEq]
  refine Qd rfl ?_ ?_
  ·intro hc2
   refine Qa ?_
   simp only [go_sem, reduceIte, reduceEqDiff, reduceAdd, reduceLeDiff, reduceLT, reduceCtorEq]
   refine Qj ?_
   simp only [go_sem]
   exact retf false _ _ _ (by simp at hc hc2; rw [hGd]; simp [Qrl, hc, hc2]) kn (by simp [lk])
  ·intro hc2
   refine Qf ?_
   simp only [go_sem]
   exact rest31 1 _ (by simp at hc; simp [Qnk, hc]) (fun _ => by simpa using hc2) (by simp [lk]) (by simp [lk]) (by simp [lk]) (by simp [lk]) (by simp [lk]) (by simp [lk])
 intro hc1
 refine Qa ?_
 simp only [go_sem, reduceIte, reduceEqDiff, reduceAdd, reduceLeDiff, reduceLT, reduceCtorEq]
 refine Qd rfl ?_ ?_
 ·intro hc
  refine Qp ?_
  simp only [go_sem, reduceIte, reduceEqDiff, reduceAdd, reduceLeDiff, reduceLT, reduceCtorEq]
  exact rest31 2 _ (by simp at hc; simp [Qnk, hc]) (fun h => by simp at hc1; exact absurd h hc1) (by simp [lk]) (by simp [lk]) (by simp [lk]) (by simp [lk]) (by simp [lk]) (by simp [lk])
 intro hc2
 refine Qa ?_
 simp only [go_sem, reduceIte, reduceEqDiff, reduceAdd, reduceLeDiff, reduceLT, reduceCtorEq]
 refine Qd rfl ?_ ?_
 ·intro hc
  refine Qp ?_
  simp only [go_sem, reduceIte, reduceEqDiff, reduceAdd, reduceLeDiff, reduceLT, reduceCtorEq]
  exact rest31 0 _ (by simp at hc; simp [Qnk, hc]) (fun h => by simp at hc1; exact absurd h hc1) (by simp [lk]) (by simp [lk]) (by simp [lk]) (by simp [lk]) (by simp [lk]) (by simp [lk])
 ·intro hc
  refine Qa ?_
  simp only [go_sem, reduceIte, reduceEqDiff, reduceAdd, reduceLeDiff, reduceLT, reduceCtorEq]
  refine Qj ?_
  simp only [go_sem]
  exact retf false _ _ _ (by simp at hc1 hc2 hc; rw [hGd]; simp [Qrl, Qnk, hc1, hc2, hc]) kn (by simp [lk])
end Go.AE.Y

namespace Go.AE.Y
open Go.Proofs.Tryz
variable {H : Heap} {K : V → Heap → Prop}
set_option maxHeartbeats 3000000 in
theorem Qai9 {b : BlkD} (hb : b.sm) (hK : ∀ (o : OBlk) (H' : Heap), Kn H H' [] o.lg → o.ok → o.sm 1000 → K (.ag o.row) H') : Qo prog Qh9 [.ag b.cells] H K := by
 have hbn := hb.n
 have hbi := hb.i
 have hbp := hb.p
 refine Qiz ?_
 refine Qb Qas Qajj ?_
 refine Qa ?_
 simp only [go_sem, BlkD.cells, reduceIte, reduceEqDiff, reduceAdd, reduceLeDiff, reduceLT, reduceCtorEq]
 intro x2 hx2 H1 h1
 have kn := (Kn.start0 H).al hx2 h1
 refine Qar ?_
 simp only [go_sem, Qe, List.nil_append, Nat.zero_add, reduceIte, reduceEqDiff, reduceAdd, reduceLeDiff, reduceLT, reduceCtorEq]
 refine ⟨.inl trivial, Q6 _, by simp only [LIM]; omega, fun y hy H2 h2 => ?_⟩
 have kn := kn.al hy h2
 simp only [go_sem, Qmm, reduceIte, reduceEqDiff, reduceAdd, reduceLeDiff, reduceLT, reduceCtorEq]
 intro x3 hx3 H3 h3
 have kn := kn.al hx3 h3
 have hx33 := kn.l 2 rfl
 simp only [go_sem, Qml, hx33, reduceIte, reduceEqDiff, reduceAdd, reduceLeDiff, reduceLT, reduceCtorEq]
 intro H4 h4
 have kn := kn.stL 2 rfl h4
 obtain ⟨nx, hnx⟩ : ∃ nx : OInts, nx = ⟨b.next, y⟩ := ⟨_, rfl⟩
 have hnc : C.vsl y 1 0 b.next.length = nx.c := by rw [hnx]; rfl
 have hnl : [(y, Obj.vec 1 (Qh b.next))] = nx.lg := by rw [hnx]; rfl
 rw [hnc] at kn
 have kn : Kn H H4 [] ([(x2, .st [.sl true 2 [], .sl true 4 [], .int .i64 0, .int .i64 0, .sl true 1 []]), (x3, .st [.sl true 2 [], .sl true 4 [], .int .i64 b.jump, .int .i64 b.on, nx.c])] ++ nx.lg) := kn.perm (by
  rw [← hnl]
  exact .cons _ (.swap _ _ _))
 refine Q2 ?_
 refine Qa ?_
 simp only [go_sem, reduceIte, reduceEqDiff, reduceAdd, reduceLeDiff, reduceLT, reduceCtorEq]
 refine Qg (Qc (Qt (fun n e1 H1 => ∃ (i : Nat) (ps : List OPhi) (pc : C) (pl : List (Nat × Obj)), n = b.phis.length - i ∧ i ≤ b.phis.length ∧ ps.length = i ∧ (∀ p ∈ ps, p.ok) ∧ Gr pl 2 (ps.map OPhi.row) pc ∧
  Kn H H1 [] (([(x2, .st [.sl true 2 [], .sl true 4 [], .int .i64 0, .int .i64 0, .sl true 1 []]), (x3, .st [pc, .sl true 4 [], .int .i64 b.jump, .int .i64 b.on, nx.c])] ++ (nx.lg ++ ps.flatMap OPhi.lg)) ++ pl) ∧
  e1 = [(1, .c (.pp [.sl false 2 (Qbi b.phis), .sl false 4 (Qbz b.ins), .int .i64 b.jump, .int .i64 b.on, .sl false 1 (Qh b.next)])), (2, .c (.ptr x2 0)), (3, .c (.ptr x3 0)), (4, .c (.int .i64 i))]) b.phis.length ?_ ?_))
 ·exact ⟨0, [], _, [], by omega, by omega, rfl, by simp, .nil 2, by simpa using kn, rfl⟩
 ·rintro n e1 H1 ⟨i, ps, pc, pl, hn1, hi, hpsl, hpsok, hgr, kn, rfl⟩
  have hpcow := hgr.isOw
  refine Q2 ?_
  refine Qa ?_
  simp only [go_sem, Qah, reduceIte, reduceEqDiff, reduceAdd, reduceLeDiff, reduceLT, reduceCtorEq]
  intro hl
  refine Qg (Qd rfl ?_ ?_)
  ·intro hc
   have hlt : i < b.phis.length := by simpa using hc
   have hpa := hb.pa _ (List.getElem_mem hlt)
   have hx31 := kn.l 1 rfl
   refine Qf ?_
   simp only [go_sem]
   refine Qg (Qc (Qb4 ?_))
   simp only [go_sem, hx31, hpcow, hlt, Qah, Qbf _ _ hlt, PhiD.cells, Qe, List.nil_append, Nat.zero_add, reduceIte, reduceEqDiff, reduceAdd, reduceLeDiff, reduceLT, reduceCtorEq]
   refine ⟨.inl trivial, Q6 _, by simp only [LIM]; omega, fun a ha H5 h5 => ?_⟩
   have kn := kn.al ha h5
   have hx35 := kn.l 1 rfl
   simp only [go_sem, Qmo, hx35, hpcow, hlt, Qah, Qbf _ _ hlt, PhiD.cells, reduceIte, reduceEqDiff, reduceAdd, reduceLeDiff, reduceLT, reduceCtorEq]
   obtain ⟨o, ho⟩ : ∃ o : OPhi, o = ⟨b.phis[i].to, b.phis[i].args, .vsl a 1 0 b.phis[i].args.length, [(a, .vec 1 (Qh b.phis[i].args))]⟩ := ⟨_, rfl⟩
   have hook : o.ok := by rw [ho]; exact .inl ⟨a, rfl, rfl⟩
   have hor : [C.int IntKind.i64 b.phis[i].to, C.vsl a 1 0 b.phis[i].args.length] = o.row := by rw [ho]; rfl
   have hol : [(a, Obj.vec 1 (Qh b.phis[i].args))] = o.lg := by rw [ho]
   rw [hor]
   rw [hol] at kn
   have kn := kn.perm Qanf
   refine kn.grow (new := [o.row]) hgr (.mk' _ _ _ _) (by intro r hr; simp only [List.mem_singleton] at hr; subst hr; exact o.noOw hook) (by simp only [List.length_map, List.length_cons, List.length_nil, LIM]; omega) fun z H6 kn => ?_
   have kn : Kn H H6 [] (([(x2, .st [.sl true 2 [], .sl true 4 [], .int .i64 0, .int .i64 0, .sl true 1 []]), (x3, .st [pc, .sl true 4 [], .int .i64 b.jump, .int .i64 b.on, nx.c])] ++ (nx.lg ++ (ps ++ [o]).flatMap OPhi.lg)) ++ [(z, .vec 2 ((ps ++ [o]).map OPhi.row))]) := by
    simpa [List.flatMap_append, List.append_assoc] using kn
   have hx36 := kn.l 1 rfl
   simp only [go_sem, Qmn, hx36, reduceIte, reduceEqDiff, reduceAdd, reduceLeDiff, reduceLT, reduceCtorEq]
   intro H7 h7
   have kn := kn.stL 1 rfl h7
   refine Qp ?_
   simp only [go_sem, X.next, reduceIte, reduceEqDiff, reduceAdd, reduceLeDiff, reduceLT, reduceCtorEq]
   simp only [LIM] at hl
   refine ⟨Qn (by omega) (by omega), b.phis.length - (i + 1), by omega, i + 1, ps ++ [o], _, _, rfl, by omega, by simp [hpsl], fun p hp => ?_, ?_, kn, rfl⟩
   ·rcases List.mem_append.1 hp with h | h
    ·exact hpsok p h
    ·simp only [List.mem_singleton] at h; subst h; exact hook
   ·exact .mk _ _ _ (by simp)
  ·intro hc
   refine Qs ?_
   simp only [go_sem, X.next]
   refine Q2 ?_
   refine Qa ?_
   simp only [go_sem, reduceIte, reduceEqDiff, reduceAdd, reduceLeDiff, reduceLT, reduceCtorEq]
   refine Qg (Qc (Qt (fun n e1 H1 => ∃ (i : Nat) (is : List OIns) (ic : C) (il : List (Nat × Obj)), n = b.ins.length - i ∧ i ≤ b.ins.length ∧ is.length = i ∧ (∀ x ∈ is, x.a.ns.length ≤ 1000) ∧ Gr il 4 (is.map OIns.row) ic ∧
    Kn H H1 [] (([(x2, .st [.sl true 2 [], .sl true 4 [], .int .i64 0, .int .i64 0, .sl true 1 []]), (x3, .st [pc, ic, .int .i64 b.jump, .int .i64 b.on, nx.c])] ++ (nx.lg ++ (ps.flatMap OPhi.lg ++ (pl ++ is.flatMap OIns.lg)))) ++ il) ∧
    e1 = [(1, .c (.pp [.sl false 2 (Qbi b.phis), .sl false 4 (Qbz b.ins), .int .i64 b.jump, .int .i64 b.on, .sl false 1 (Qh b.next)])), (2, .c (.ptr x2 0)), (3, .c (.ptr x3 0)), (5, .c (.int .i64 i))]) b.ins.length ?_ ?_))
   ·exact ⟨0, [], _, [], by omega, by omega, rfl, by simp, .nil 4, by simpa [List.append_assoc] using kn, rfl⟩
   ·rintro n e1 H1 ⟨i, is, ic, il, hn1, hi, hisl, hisa, hgi, kn, rfl⟩
    have hicow := hgi.isOw
    refine Q2 ?_
    refine Qa ?_
    simp only [go_sem, Qaf, reduceIte, reduceEqDiff, reduceAdd, reduceLeDiff, reduceLT, reduceCtorEq]
    intro hl
    refine Qg (Qd rfl ?_ ?_)
    ·intro hc
     have hlt : i < b.ins.length := by simpa using hc
     have hia := hb.ia _ (List.getElem_mem hlt)
     refine Qf ?_
     simp only [go_sem]
     refine Qg (Qc ?_)
     refine Qa ?_
     simp only [go_sem, hlt, Qaf, Qcg _ _ hlt, InsD.cells, reduceIte, reduceEqDiff, reduceAdd, reduceLeDiff, reduceLT, reduceCtorEq]
     intro x6 hx6 H5 h5
     have kn := kn.al hx6 h5
     have kn := kn.perm (List.perm_append_comm (l₁ := _) (l₂ := [(x6, _)]))
     have hx65 := kn.l 0 rfl
     simp only [go_sem, Qmp, hx65, reduceIte, reduceEqDiff, reduceAdd, reduceLeDiff, reduceLT, reduceCtorEq]
     intro H6 h6
     have kn := kn.stL 0 rfl h6
     have hx66 := kn.l 0 rfl
     have hx36 := kn.l 2 rfl
     refine Qb4 ?_
     simp only [go_sem, hx66, hx36, hicow, Qe, List.nil_append, Nat.zero_add, reduceIte, reduceEqDiff, reduceAdd, reduceLeDiff, reduceLT, reduceCtorEq]
     refine ⟨.inl trivial, Q6 _, by simp only [LIM]; omega, fun a ha H7 h7 => ?_⟩
     have kn := kn.al ha h7
     have hx67 := kn.l 0 rfl
     have hx37 := kn.l 2 rfl
     simp only [go_sem, Qmr, hx67, hx37, hicow, reduceIte, reduceEqDiff, reduceAdd, reduceLeDiff, reduceLT, reduceCtorEq]
     obtain ⟨o, ho⟩ : ∃ o : OIns, o = ⟨b.ins[i].op, b.ins[i].to, ⟨b.ins[i].args, a⟩, b.ins[i].n⟩ := ⟨_, rfl⟩
     have hor : [C.int IntKind.i64 b.ins[i].op, C.int IntKind.i64 b.ins[i].to, C.vsl a 1 0 b.ins[i].args.length, C.int IntKind.i64 b.ins[i].n] = o.row := by rw [ho]; rfl
     have hol : [(a, Obj.vec 1 (Qh b.ins[i].args))] = o.lg := by rw [ho]; rfl
     rw [hor]
     rw [hol] at kn
     have kn : Kn H H7 [] ((([(x2, .st [.sl true 2 [], .sl true 4 [], .int .i64 0, .int .i64 0, .sl true 1 []]), (x3, .st [pc, ic, .int .i64 b.jump, .int .i64 b.on, nx.c])] ++ (nx.lg ++ (ps.flatMap OPhi.lg ++ (pl ++ is.flatMap OIns.lg)))) ++ il) ++ o.lg) := by
      have kn := kn.perm (List.perm_append_comm (l₁ := [(x6, _)]) (l₂ := _))
      exact kn.drop
     have kn := kn.perm Qanf
     refine kn.grow (new := [o.row]) hgi (.mk' _ _ _ _) (by simp [o.noOw]) (by simp only [List.length_map, List.length_cons, List.length_nil, LIM]; omega) fun z H8 kn => ?_
     have kn : Kn H H8 [] (([(x2, .st [.sl true 2 [], .sl true 4 [], .int .i64 0, .int .i64 0, .sl true 1 []]), (x3, .st [pc, ic, .int .i64 b.jump, .int .i64 b.on, nx.c])] ++ (nx.lg ++ (ps.flatMap OPhi.lg ++ (pl ++ (is ++ [o]).flatMap OIns.lg)))) ++ [(z, .vec 4 ((is ++ [o]).map OIns.row))]) := by
      simpa [List.flatMap_append, List.append_assoc] using kn
     have hx38 := kn.l 1 rfl
     simp only [go_sem, Qmq, hx38, reduceIte, reduceEqDiff, reduceAdd, reduceLeDiff, reduceLT, reduceCtorEq]
     intro H9 h9
     have kn := kn.stL 1 rfl h9
     refine Qp ?_
     simp only [go_sem, X.next, reduceIte, reduceEqDiff, reduceAdd, reduceLeDiff, reduceLT, reduceCtorEq]
     simp only [LIM] at hl
     refine ⟨Qn (by omega) (by omega), b.ins.length - (i + 1), by omega, i + 1, is ++ [o], _, _, rfl, by omega, by simp [hisl], fun x hx => ?_, ?_, kn, rfl⟩
     ·rcases List.mem_append.1 hx with hx | hx
      ·exact hisa x hx
      ·simp only [List.mem_singleton] at hx
       rw [hx, ho]; exact hia
     ·exact .mk _ _ _ (by simp)
    ·intro hc
     have hx21 := kn.l 0 rfl
     have hx31 := kn.l 1 rfl
     refine Qs ?_
     simp only [go_sem, X.next]
     have hnow : nx.c.isOw = false := rfl
     refine Qa ?_
     simp only [go_sem, hx21, hx31, hpcow, hicow, hnow, reduceIte, reduceEqDiff, reduceAdd, reduceLeDiff, reduceLT, reduceCtorEq]
     intro H5 h5
     have kn := kn.stL 0 rfl h5
     have hx25 := kn.l 0 rfl
     refine Qj ?_
     simp only [go_sem, Qz, Q9, Qu8, reduceIte, List.mem_singleton, forall_eq, RS.op, hx25, hpcow, hicow, hnow, reduceIte, reduceEqDiff, reduceAdd, reduceLeDiff, reduceLT, reduceCtorEq]
     obtain ⟨o, ho⟩ : ∃ o : OBlk, o = ⟨ps, pc, pl, is, ic, il, b.jump, b.on, nx⟩ := ⟨_, rfl⟩
     have hok : o.ok := by rw [ho]; exact ⟨hgr, hgi, hpsok⟩
     have hos : o.sm 1000 := by rw [ho]; exact ⟨by rw [hnx]; exact hbn, by show is.length ≤ _; omega, by show ps.length ≤ _; omega, hisa⟩
     have kn : Kn H H5 [] ([(x2, .st [pc, ic, .int .i64 b.jump, .int .i64 b.on, nx.c]), (x3, .st [pc, ic, .int .i64 b.jump, .int .i64 b.on, nx.c])] ++ o.lg) := by
      rw [ho]; simpa [OBlk.lg, List.append_assoc] using kn
     refine ⟨unx H o.lg, .ag o.row, H5.frz (unx H o.lg), ?_, Qg2 _ _, hK o _ kn.finK hok hos⟩
     rw [ho]
     exact FrzL.ag (.cons (.same _ hpcow) (.cons (.same _ hicow) (.cons (Qi rfl) (.cons (Qi rfl) (.cons (.same _ hnow) .nil)))))
end Go.AE.Y

namespace Go.AE.Y
open Go.Proofs.Tryz
variable {H : Heap} {K : V → Heap → Prop}
theorem BlkD.take5 (x : BlkD) : x.cells.take 5 = x.cells := rfl
theorem BlkD.allOw (x : BlkD) : (x.cells.all fun c => !c.isOw) = true := rfl
theorem BlkD.len5 (x : BlkD) : x.cells.length = 5 := rfl
theorem CodeD.take3 (x : CodeD) : x.cells.take 3 = x.cells := rfl
theorem CodeD.allOw (x : CodeD) : (x.cells.all fun c => !c.isOw) = true := rfl
theorem CodeD.len3 (x : CodeD) : x.cells.length = 3 := rfl
theorem OBlk.len5 (x : OBlk) : x.row.length = 5 := rfl
theorem OCode.len3 (x : OCode) : x.row.length = 3 := rfl
set_option maxHeartbeats 2000000 in
theorem Qa6u {q : CodeD} (hq : q.sm) (hK : ∀ (o : OCode) (H' : Heap), Kn H H' [] o.lg → o.ok → o.sm 1000 → K (.ag o.row) H') : Qo prog Q6q [.ag q.cells] H K := by
 have hqb := hq.b
 refine Qiz ?_
 refine Qb Qas Qa7c ?_
 refine Qa ?_
 simp only [go_sem, CodeD.cells, reduceIte, reduceEqDiff, reduceAdd, reduceLeDiff, reduceLT, reduceCtorEq]
 intro x2 hx2 H1 h1
 have kn := (Kn.start0 H).al hx2 h1
 refine Qa ?_
 simp only [go_sem, reduceIte, reduceEqDiff, reduceAdd, reduceLeDiff, reduceLT, reduceCtorEq]
 intro x3 hx3 H2 h2
 have kn := kn.al hx3 h2
 have hx32 := kn.l 1 rfl
 simp only [go_sem, Qaax, hx32, reduceIte, reduceEqDiff, reduceAdd, reduceLeDiff, reduceLT, reduceCtorEq]
 intro H3 h3
 have kn := kn.stL 1 rfl h3
 refine Q2 ?_
 refine Qa ?_
 simp only [go_sem, reduceIte, reduceEqDiff, reduceAdd, reduceLeDiff, reduceLT, reduceCtorEq]
 refine Qg (Qc (Qt (fun n e1 H1 => ∃ (i : Nat) (os : List OBlk) (bc : C) (bl : List (Nat × Obj)), n = q.blocks.length - i ∧ i ≤ q.blocks.length ∧ os.length = i ∧ (∀ o ∈ os, o.ok ∧ o.sm 1000) ∧ Gr bl 5 (os.map OBlk.row) bc ∧
  Kn H H1 [] (([(x2, .st [.int .i64 0, .int .i64 0, .sl true 5 []]), (x3, .st [.int .i64 q.params, .int .i64 q.regs, bc])] ++ os.flatMap OBlk.lg) ++ bl) ∧
  e1 = [(1, .c (.pp [.int .i64 q.params, .int .i64 q.regs, .sl false 5 (Qq q.blocks)])), (2, .c (.ptr x2 0)), (3, .c (.ptr x3 0)), (4, .c (.int .i64 i))]) q.blocks.length ?_ ?_))
 ·exact ⟨0, [], _, [], by omega, by omega, rfl, by simp, .nil 5, by simpa using kn, rfl⟩
 ·rintro n e1 H1 ⟨i, os, bc, bl, hn1, hi, hol, hok, hgr, kn, rfl⟩
  have hbow := hgr.isOw
  have hx31 := kn.l 1 rfl
  refine Q2 ?_
  refine Qa ?_
  simp only [go_sem, Qk, reduceIte, reduceEqDiff, reduceAdd, reduceLeDiff, reduceLT, reduceCtorEq]
  intro hl
  simp only [LIM] at hl
  refine Qg (Qd rfl ?_ ?_)
  ·intro hc
   have hlt : i < q.blocks.length := by simpa using hc
   refine Qf ?_
   simp only [go_sem]
   refine Qg (Qc (Qb4 ?_))
   simp only [go_sem, hx31, hbow, hlt, Qk, Q3 _ _ hlt, BlkD.take5, BlkD.allOw, BlkD.len5, reduceIte, reduceEqDiff, reduceAdd, reduceLeDiff, reduceLT, reduceCtorEq]
   refine Qai9 (hq.bs _ (List.getElem_mem hlt)) fun o H4 k2 hoo hosm => ?_
   have kn := kn.comp0 k2
   have hx34 := kn.l 1 rfl
   simp only [go_sem, Qaaz, hx34, hbow, o.len5, reduceIte, reduceEqDiff, reduceAdd, reduceLeDiff, reduceLT, reduceCtorEq]
   have kn := kn.perm Qanf
   refine kn.grow (new := [o.row]) hgr (.mk' _ _ _ _) (by intro r hr; simp only [List.mem_singleton] at hr; subst hr; exact o.noOw hoo) (by simp only [List.length_map, List.length_cons, List.length_nil, LIM]; omega) fun z H5 kn => ?_
   have kn : Kn H H5 [] (([(x2, .st [.int .i64 0, .int .i64 0, .sl true 5 []]), (x3, .st [.int .i64 q.params, .int .i64 q.regs, bc])] ++ (os ++ [o]).flatMap OBlk.lg) ++ [(z, .vec 5 ((os ++ [o]).map OBlk.row))]) := by
    simpa [List.flatMap_append, List.append_assoc] using kn
   have hx35 := kn.l 1 rfl
   simp only [go_sem, Qaay, hx35, reduceIte, reduceEqDiff, reduceAdd, reduceLeDiff, reduceLT, reduceCtorEq]
   intro H6 h6
   have kn := kn.stL 1 rfl h6
   refine Qp ?_
   simp only [go_sem, X.next, reduceIte, reduceEqDiff, reduceAdd, reduceLeDiff, reduceLT, reduceCtorEq]
   refine ⟨Qn (by omega) (by omega), q.blocks.length - (i + 1), by omega, i + 1, os ++ [o], _, _, rfl, by omega, by simp [hol], fun o' ho' => ?_, .mk _ _ _ (by simp), kn, rfl⟩
   rcases List.mem_append.1 ho' with h | h
   ·exact hok o' h
   ·simp at h; subst h; exact ⟨hoo, hosm⟩
  ·intro hc
   have hge : q.blocks.length ≤ i := by simpa using hc
   have hx21 := kn.l 0 rfl
   refine Qs ?_
   simp only [go_sem, X.next]
   refine Qa ?_
   simp only [go_sem, hx31, hx21, hbow, reduceIte, reduceEqDiff, reduceAdd, reduceLeDiff, reduceLT, reduceCtorEq]
   intro H4 h4
   have kn := kn.stL 0 rfl h4
   have hx24 := kn.l 0 rfl
   refine Qj ?_
   simp only [go_sem, Qz, Q9, Qax6, reduceIte, List.mem_singleton, forall_eq, RS.op, hx24, hbow, reduceIte, reduceEqDiff, reduceAdd, reduceLeDiff, reduceLT, reduceCtorEq]
   obtain ⟨o, ho⟩ : ∃ o : OCode, o = ⟨q.params, q.regs, os, bc, bl⟩ := ⟨_, rfl⟩
   have hb0 := hq.b0
   have hosm : o.sm 1000 := by rw [ho]; exact ⟨by show 0 < os.length; omega, by show os.length ≤ _; omega, fun b hb => (hok b hb).2, hq.p0, hq.p1⟩
   have hok : o.ok := by rw [ho]; exact ⟨hgr, fun b hb => (hok b hb).1⟩
   have kn : Kn H H4 [] ([(x2, .st [.int .i64 q.params, .int .i64 q.regs, bc]), (x3, .st [.int .i64 q.params, .int .i64 q.regs, bc])] ++ o.lg) := by
    rw [ho]; simpa [OCode.lg, List.append_assoc] using kn
   refine ⟨unx H o.lg, .ag o.row, H4.frz (unx H o.lg), ?_, Qg2 _ _, hK o _ kn.finK hok hosm⟩
   rw [ho]
   exact FrzL.ag (.cons (Qi rfl) (.cons (Qi rfl) (.cons (.same _ hbow) .nil)))
set_option maxHeartbeats 2000000 in
theorem Qamu {cs : List CodeD} {fl : Bool} (hs : ∀ c ∈ cs, c.sm) (hl : cs.length ≤ 1000000)
  (hK : ∀ (us : List OCode) (cc : C) (cl : List (Nat × Obj)) (H' : Heap), Kn H H' [] (us.flatMap OCode.lg ++ cl) → Gr cl 3 (us.map OCode.row) cc → (∀ u ∈ us, u.ok ∧ u.sm 1000) → us.length = cs.length → K (.ag [cc]) H') :
  Qo prog Qkr [.ag [.sl fl 3 (Qm cs)]] H K := by
 refine Qiz ?_
 refine Qb Qas Qam5 ?_
 refine Qa ?_
 simp only [go_sem, reduceIte, reduceEqDiff, reduceAdd, reduceLeDiff, reduceLT, reduceCtorEq]
 intro x2 hx2 H1 h1
 have kn := (Kn.start0 H).al hx2 h1
 refine Qa ?_
 simp only [go_sem, reduceIte, reduceEqDiff, reduceAdd, reduceLeDiff, reduceLT, reduceCtorEq]
 intro x3 hx3 H2 h2
 have kn := kn.al hx3 h2
 have hx32 := kn.l 1 rfl
 simp only [go_sem, Qqb, hx32, reduceIte, reduceEqDiff, reduceAdd, reduceLeDiff, reduceLT, reduceCtorEq]
 intro H3 h3
 have kn := kn.stL 1 rfl h3
 refine Q2 ?_
 refine Qa ?_
 simp only [go_sem, reduceIte, reduceEqDiff, reduceAdd, reduceLeDiff, reduceLT, reduceCtorEq]
 refine Qg (Qc (Qt (fun n e1 H1 => ∃ (i : Nat) (os : List OCode) (bc : C) (bl : List (Nat × Obj)), n = cs.length - i ∧ i ≤ cs.length ∧ os.length = i ∧ (∀ o ∈ os, o.ok ∧ o.sm 1000) ∧ Gr bl 3 (os.map OCode.row) bc ∧
  Kn H H1 [] (([(x2, .st [.sl true 3 []]), (x3, .st [bc])] ++ os.flatMap OCode.lg) ++ bl) ∧
  e1 = [(1, .c (.pp [.sl fl 3 (Qm cs)])), (2, .c (.ptr x2 0)), (3, .c (.ptr x3 0)), (4, .c (.int .i64 i))]) cs.length ?_ ?_))
 ·exact ⟨0, [], _, [], by omega, by omega, rfl, by simp, .nil 3, by simpa using kn, rfl⟩
 ·rintro n e1 H1 ⟨i, os, bc, bl, hn1, hi, hol, hok, hgr, kn, rfl⟩
  have hbow := hgr.isOw
  have hx31 := kn.l 1 rfl
  refine Q2 ?_
  refine Qa ?_
  simp only [go_sem, Qr, reduceIte, reduceEqDiff, reduceAdd, reduceLeDiff, reduceLT, reduceCtorEq]
  intro _
  refine Qg (Qd rfl ?_ ?_)
  ·intro hc
   have hlt : i < cs.length := by simpa using hc
   refine Qf ?_
   simp only [go_sem]
   refine Qg (Qc (Qb4 ?_))
   simp only [go_sem, hx31, hbow, hlt, Qr, Qy _ _ hlt, CodeD.take3, CodeD.allOw, CodeD.len3, reduceIte, reduceEqDiff, reduceAdd, reduceLeDiff, reduceLT, reduceCtorEq]
   refine Qa6u (hs _ (List.getElem_mem hlt)) fun o H4 k2 hoo hob => ?_
   have kn := kn.comp0 k2
   have hx34 := kn.l 1 rfl
   simp only [go_sem, Qqd, hx34, hbow, o.len3, reduceIte, reduceEqDiff, reduceAdd, reduceLeDiff, reduceLT, reduceCtorEq]
   have kn := kn.perm Qanf
   refine kn.grow (new := [o.row]) hgr (.mk' _ _ _ _) (by intro r hr; simp only [List.mem_singleton] at hr; subst hr; exact o.noOw hoo) (by simp only [List.length_map, List.length_cons, List.length_nil, LIM]; omega) fun z H5 kn => ?_
   have kn : Kn H H5 [] (([(x2, .st [.sl true 3 []]), (x3, .st [bc])] ++ (os ++ [o]).flatMap OCode.lg) ++ [(z, .vec 3 ((os ++ [o]).map OCode.row))]) := by
    simpa [List.flatMap_append, List.append_assoc] using kn
   have hx35 := kn.l 1 rfl
   simp only [go_sem, Qqc, hx35, reduceIte, reduceEqDiff, reduceAdd, reduceLeDiff, reduceLT, reduceCtorEq]
   intro H6 h6
   have kn := kn.stL 1 rfl h6
   refine Qp ?_
   simp only [go_sem, X.next, reduceIte, reduceEqDiff, reduceAdd, reduceLeDiff, reduceLT, reduceCtorEq]
   refine ⟨Qn (by omega) (by omega), cs.length - (i + 1), by omega, i + 1, os ++ [o], _, _, rfl, by omega, by simp [hol], fun o' ho' => ?_, .mk _ _ _ (by simp), kn, rfl⟩
   rcases List.mem_append.1 ho' with h | h
   ·exact hok o' h
   ·simp at h; subst h; exact ⟨hoo, hob⟩
  ·intro hc
   have hge : cs.length ≤ i := by simpa using hc
   have hx21 := kn.l 0 rfl
   refine Qs ?_
   simp only [go_sem, X.next]
   refine Qa ?_
   simp only [go_sem, hx31, hx21, hbow, reduceIte, reduceEqDiff, reduceAdd, reduceLeDiff, reduceLT, reduceCtorEq]
   intro H4 h4
   have kn := kn.stL 0 rfl h4
   have hx24 := kn.l 0 rfl
   refine Qj ?_
   simp only [go_sem, Qz, Q9, Q1d, reduceIte, List.mem_singleton, forall_eq, RS.op, hx24, hbow, reduceIte, reduceEqDiff, reduceAdd, reduceLeDiff, reduceLT, reduceCtorEq]
   have kn : Kn H H4 [] ([(x2, .st [bc]), (x3, .st [bc])] ++ (os.flatMap OCode.lg ++ bl)) := by
    simpa [List.append_assoc] using kn
   exact ⟨unx H _, .ag [bc], H4.frz (unx H _), FrzL.ag (.cons (.same _ hbow) .nil), Qg2 _ _, hK os bc bl _ kn.finK hgr hok (by omega)⟩
end Go.AE.Y

namespace Go.AE.Y
open Go.Proofs.Tryz
variable {H : Heap} {K : V → Heap → Prop}
structure CRd (H : Heap) (R : Rdr) (cc : C) (rows : List (List C)) : Prop where
 s : Slc H 3 rows cc
 ow : cc.isOw = false
 ne : ∀ l a c d, cc = .vsl l a c d → l ≠ R.l
 r : ∀ i, i < rows.length → ∃ (p : Int) (c1 c2 : C), rows.getD i [] = [.int .i64 p, c1, c2] ∧ 0 ≤ p ∧ p ≤ 3
theorem CRd.keep {R : Rdr} {cc : C} {rows : List (List C)} {o : Obj} {H' : Heap} {L : List (Nat × Obj)} (h : CRd H R cc rows) (kn : Kn H H' [(R.l, o)] L) : CRd H' R cc rows :=
 ⟨h.s.keep kn (fun l a c d hh => by simpa using h.ne l a c d hh), h.ow, h.ne, h.r⟩
theorem Qa2z {R : Rdr} {k b n : Nat} (hH : H R.l = R.o k) (hk : k + 2 ≤ 2^40) (hb : b ≤ 1000) (hn : n ≤ 1000)
  (hK : ∀ (v : Int) (H' : Heap) (k' : Nat), k < k' → k' ≤ k + 2 → Upd H H' [(R.l, R.o k')] → K (.c (.int .i64 v)) H') :
  Qo prog Q6s [.c (.ptr R.l 0), .c (.int .i64 b), .c (.int .i64 n)] H K := by
 refine Q0 ?_
 refine Qb Qas Qbb3 ?_
 have kn := Kn.start1 hH (R.o_ne k)
 refine Qa ?_
 simp only [go_sem, reduceIte, reduceEqDiff, reduceAdd, reduceLeDiff, reduceLT, reduceCtorEq]
 refine Q2 ?_
 refine Qa ?_
 simp only [go_sem, reduceIte, reduceEqDiff, reduceAdd, reduceLeDiff, reduceLT, reduceCtorEq]
 refine ⟨Qn (by omega) (by omega), ?_⟩
 have rest : ∀ (v : Bool) (H2 : Heap) (k2 : Nat), k ≤ k2 → k2 ≤ k + 1 → Kn H H2 [(R.l, R.o k2)] [] →
   Qae prog (s_l7To_2.seq Qayb) (Qz Qax7 fun x H' => ∃ x', FrzV H' (un H) x x' ∧ K x' (H'.frz (un H))) [(0, .c (.ptr R.l 0)), (1, .c (.int .i64 b)), (2, .c (.int .i64 n)), (15, .c (.bool v))] H2 := by
  intro v H2 k2 hk1 hk2 kn
  have pv : ∀ m v : Int, m ≤ 1000 → (if m < 1 then v = 0 else 0 ≤ v ∧ v < m) → 0 ≤ v ∧ v ≤ 1000 := by
   intro m v hm hv
   split at hv <;> omega
  refine Qg (Qd rfl ?_ ?_)
  ·intro hc
   refine Qa ?_
   simp only [go_sem, reduceIte, reduceEqDiff, reduceAdd, reduceLeDiff, reduceLT, reduceCtorEq]
   refine ⟨Qn (by omega) (by omega), Qn (by omega) (by omega), Qn (by omega) (by omega), ?_⟩
   refine Qa5 (kn.e 0 rfl) (by omega) fun v H3 hv hu => ?_
   have kn := kn.callE 0 rfl hu (R.o_ne _)
   have hv := pv _ _ (by omega) hv
   simp only [go_sem, Qapv, reduceIte, reduceEqDiff, reduceAdd, reduceLeDiff, reduceLT, reduceCtorEq]
   refine ⟨Qn (by omega) (by omega), ?_⟩
   refine Qj ?_
   simp only [go_sem, Qz, Q9, Qax7, reduceIte, List.mem_singleton, forall_eq, RS.op, reduceIte, reduceEqDiff, reduceAdd, reduceLeDiff, reduceLT, reduceCtorEq]
   exact ⟨_, .c _ _ (Qi rfl), hK _ _ (k2 + 1) (by omega) (by omega) kn.fin⟩
  ·intro hc
   refine Qf ?_
   simp only [go_sem]
   refine Qa ?_
   simp only [go_sem, reduceIte, reduceEqDiff, reduceAdd, reduceLeDiff, reduceLT, reduceCtorEq]
   refine ⟨Qn (by omega) (by omega), ?_⟩
   refine Qa5 (kn.e 0 rfl) (by omega) fun v H3 hv hu => ?_
   have kn := kn.callE 0 rfl hu (R.o_ne _)
   have hv := pv _ _ (by omega) hv
   simp only [go_sem, Qapw, reduceIte, reduceEqDiff, reduceAdd, reduceLeDiff, reduceLT, reduceCtorEq]
   refine ⟨Qn (by omega) (by omega), ?_⟩
   refine Qj ?_
   simp only [go_sem, Qz, Q9, Qax7, reduceIte, List.mem_singleton, forall_eq, RS.op, reduceIte, reduceEqDiff, reduceAdd, reduceLeDiff, reduceLT, reduceCtorEq]
   exact ⟨_, .c _ _ (Qi rfl), hK _ _ (k2 + 1) (by omega) (by omega) kn.fin⟩
 refine ⟨fun hb1 => ?_, fun hb1 => ?_⟩
 ·refine Qa5 (kn.e 0 rfl) (by omega) fun v H3 hv hu => ?_
  have kn := kn.callE 0 rfl hu (R.o_ne _)
  simp only [go_sem, Qabc, hb1, reduceIte, reduceEqDiff, reduceAdd, reduceLeDiff, reduceLT, reduceCtorEq]
  exact rest _ _ (k + 1) (by omega) (by omega) kn
 ·simp only [go_sem, Qabc, hb1, reduceIte, reduceEqDiff, reduceAdd, reduceLeDiff, reduceLT, reduceCtorEq]
  exact rest _ _ k (by omega) (by omega) kn
set_option maxHeartbeats 2000000 in
theorem Qa6v {R : Rdr} {k : Nat} {cc : C} {rows : List (List C)} {regs : Int} (hH : H R.l = R.o k) (hk : k + 9 ≤ 2^40) (hc : CRd H R cc rows)
  (hK : ∀ (x : InsD) (H' : Heap) (k' : Nat), k < k' → k' ≤ k + 9 → Upd H H' [(R.l, R.o k')] → x.args.length ≤ 3 → K (.ag x.cells) H') :
  Qo prog Q6r [.c (.ptr R.l 0), .ag [cc], .c (.int .i64 regs)] H K := by
 refine Q0 ?_
 refine Qb Qas Qa7e ?_
 have how := hc.ow
 have hlen := hc.s.len
 have hesz := hc.s.sz
 refine Qa ?_
 simp only [go_sem, how, reduceIte, reduceEqDiff, reduceAdd, reduceLeDiff, reduceLT, reduceCtorEq]
 intro x6 hx6 H1 h1
 have kn := (Kn.start1 hH (R.o_ne k)).al hx6 h1
 refine Qa ?_
 simp only [go_sem, reduceIte, reduceEqDiff, reduceAdd, reduceLeDiff, reduceLT, reduceCtorEq]
 refine Qig (ns := [1, 1, 2, 3, 4, 5, 8, 9, 10, 13, 3, 6, 7, 11, 12, 14]) (kn.e 0 rfl) (by omega) (by simp) fun op H2 hop hu => ?_
 have kn := kn.callE 0 rfl hu (R.o_ne _)
 simp only [go_sem, Qaa7, reduceIte, reduceEqDiff, reduceAdd, reduceLeDiff, reduceLT, reduceCtorEq]
 refine Qa ?_
 simp only [go_sem, reduceIte, reduceEqDiff, reduceAdd, reduceLeDiff, reduceLT, reduceCtorEq]
 refine Qa5 (kn.e 0 rfl) (by omega) fun to H3 hto hu => ?_
 have kn := kn.callE 0 rfl hu (R.o_ne _)
 simp only [go_sem, Qaa8, Qt2, reduceIte, reduceEqDiff, reduceAdd, reduceLeDiff, reduceLT, reduceCtorEq]
 intro x8 hx8 H4 h4
 have kn := kn.al hx8 h4
 have hx84 := kn.l 1 rfl
 simp only [go_sem, Qt2, hx84, reduceIte, reduceEqDiff, reduceAdd, reduceLeDiff, reduceLT, reduceCtorEq]
 intro H5 h5
 have kn := kn.stL 1 rfl h5
 refine Qa ?_
 simp only [go_sem, reduceIte, reduceEqDiff, reduceAdd, reduceLeDiff, reduceLT, reduceCtorEq]
 refine Qa2x fun many hm1 hm2 => ?_
 simp only [go_sem, Qaa9, reduceIte, reduceEqDiff, reduceAdd, reduceLeDiff, reduceLT, reduceCtorEq]
 have args : ∀ (many : Int) (to n : Int) (H6 : Heap) (k6 : Nat), many ≤ 3 → k < k6 → k6 ≤ k + 4 → Kn H H6 [(R.l, R.o k6)] [(x6, .st [.int .i64 0, .int .i64 0, .sl true 1 [], .int .i64 0]), (x8, .st [.int .i64 op, .int .i64 to, .sl true 1 [], .int .i64 n])] →
   Qae prog Qaa4 (Qz Qrh fun x H' => ∃ x', FrzV H' (un H) x x' ∧ K x' (H'.frz (un H))) [(0, .c (.ptr R.l 0)), (2, .c (.int .i64 regs)), (6, .c (.ptr x6 0)), (8, .c (.ptr x8 0)), (9, .c (.int .i64 many))] H6 := by
  intro many to n H6 k6 hmany hk1 hk2 kn
  refine Q2 ?_
  refine Qa ?_
  simp only [go_sem, reduceIte, reduceEqDiff, reduceAdd, reduceLeDiff, reduceLT, reduceCtorEq]
  refine Qg (Qc (Qt (fun m e1 H1 => ∃ (i : Nat) (ns : List Int) (ac : C) (al : List (Nat × Obj)), m = 3 - i ∧ i ≤ 3 ∧ ns.length = i ∧ Gr al 1 (Qh ns) ac ∧
   Kn H H1 [(R.l, R.o (k6 + i))] ([(x6, .st [.int .i64 0, .int .i64 0, .sl true 1 [], .int .i64 0]), (x8, .st [.int .i64 op, .int .i64 to, ac, .int .i64 n])] ++ al) ∧
   e1 = [(0, .c (.ptr R.l 0)), (2, .c (.int .i64 regs)), (6, .c (.ptr x6 0)), (8, .c (.ptr x8 0)), (9, .c (.int .i64 many)), (10, .c (.int .i64 i))]) 3 ?_ ?_))
  ·exact ⟨0, [], _, [], by omega, by omega, rfl, .nil 1, by simpa using kn, rfl⟩
  ·rintro m e1 H7 ⟨i, ns, ac, al, hm, hi, hns, hgr, kn, rfl⟩
   have hacow := hgr.isOw
   have hx8 := kn.l 1 rfl
   refine Q2 ?_
   refine Qa ?_
   simp only [go_sem, reduceIte, reduceEqDiff, reduceAdd, reduceLeDiff, reduceLT, reduceCtorEq]
   refine Qg (Qd rfl ?_ ?_)
   ·intro hc
    have hlt : (i : Int) < many := by simpa using hc
    refine Qf ?_
    simp only [go_sem]
    refine Qg (Qc ?_)
    refine Qb4 ?_
    simp only [go_sem, hx8, hacow, reduceIte, reduceEqDiff, reduceAdd, reduceLeDiff, reduceLT, reduceCtorEq]
    refine Qa5 (kn.e 0 rfl) (by omega) fun v H8 hv hu => ?_
    have kn := kn.callE 0 rfl hu (R.o_ne _)
    have hx8 := kn.l 1 rfl
    simp only [go_sem, Q26, hx8, hacow, reduceIte, reduceEqDiff, reduceAdd, reduceLeDiff, reduceLT, reduceCtorEq]
    refine kn.grow (new := Qh [v]) hgr (.mk' _ _ _ _) (Q6 _) (by simp only [Qe, LIM, List.length_cons, List.length_nil]; omega) fun y H9 kn => ?_
    have hx8 := kn.l 1 rfl
    simp only [go_sem, Q25, hx8, reduceIte, reduceEqDiff, reduceAdd, reduceLeDiff, reduceLT, reduceCtorEq]
    intro H10 h10
    have kn := kn.stL 1 rfl h10
    refine Qp ?_
    simp only [go_sem, X.next, reduceIte, reduceEqDiff, reduceAdd, reduceLeDiff, reduceLT, reduceCtorEq]
    refine ⟨Qn (by omega) (by omega), 3 - (i + 1), by omega, i + 1, ns ++ [v], _, _, rfl, by omega, by simp [hns], ?_, kn, rfl⟩
    rw [← Qc5]
    exact .mk _ _ _ (by simp [Qc5, Qe])
   ·intro hc
    refine Qs ?_
    simp only [go_sem, X.next]
    have hx6 := kn.l 0 rfl
    refine Qa ?_
    simp only [go_sem, hx8, hx6, hacow, reduceIte, reduceEqDiff, reduceAdd, reduceLeDiff, reduceLT, reduceCtorEq]
    intro H8 h8
    have kn : Kn H H8 [(R.l, R.o (k6 + i))] ([(x6, .st [.int .i64 op, .int .i64 to, ac, .int .i64 n]), (x8, .st [.int .i64 op, .int .i64 to, ac, .int .i64 n])] ++ al) := kn.stL 0 rfl h8
    have hx6 := kn.l 0 rfl
    refine Qj ?_
    simp only [go_sem, Qz, Q9, Qrh, reduceIte, List.mem_singleton, forall_eq, RS.op, hx6, hacow, reduceIte, reduceEqDiff, reduceAdd, reduceLeDiff, reduceLT, reduceCtorEq]
    exact ⟨.ag (InsD.mk op to ns n).cells, FrzL.ag (.cons (Qi rfl) (.cons (Qi rfl) (.cons (hgr.frz kn (Q6 _)) (.cons (Qi rfl) .nil)))), hK ⟨op, to, ns, n⟩ _ (k6 + i) (by omega) (by omega) kn.fin (by show ns.length ≤ 3; omega)⟩
 have rest : ∀ (many n : Int) (H6 : Heap) (k6 : Nat) (E1 : Env), lk 0 E1 = .c (.ptr R.l 0) → lk 2 E1 = .c (.int .i64 regs) → lk 6 E1 = .c (.ptr x6 0) → lk 7 E1 = .c (.int .i64 op) → lk 8 E1 = .c (.ptr x8 0) → lk 9 E1 = .c (.int .i64 many) → many ≤ 3 → k < k6 → k6 ≤ k + 3 → Kn H H6 [(R.l, R.o k6)] [(x6, .st [.int .i64 0, .int .i64 0, .sl true 1 [], .int .i64 0]), (x8, .st [.int .i64 op, .int .i64 to, .sl true 1 [], .int .i64 n])] →
   Qae prog Qaa6 (Qz Qrh fun x H' => ∃ x', FrzV H' (un H) x x' ∧ K x' (H'.frz (un H))) E1 H6 := by
  intro many n H6 k6 E1 l0 l2 l6 l7 l8 l9 hmany hk1 hk2 kn
  have rest2 : ∀ (n : Int) (H6 : Heap) (k6 : Nat) (E1 : Env), lk 0 E1 = .c (.ptr R.l 0) → lk 2 E1 = .c (.int .i64 regs) → lk 6 E1 = .c (.ptr x6 0) → lk 7 E1 = .c (.int .i64 op) → lk 8 E1 = .c (.ptr x8 0) → lk 9 E1 = .c (.int .i64 many) → k < k6 → k6 ≤ k + 4 → Kn H H6 [(R.l, R.o k6)] [(x6, .st [.int .i64 0, .int .i64 0, .sl true 1 [], .int .i64 0]), (x8, .st [.int .i64 op, .int .i64 to, .sl true 1 [], .int .i64 n])] →
    Qae prog Qaa5 (Qz Qrh fun x H' => ∃ x', FrzV H' (un H) x x' ∧ K x' (H'.frz (un H))) E1 H6 := by
   intro n H6 k6 E1 l0 l2 l6 l7 l8 l9 hk1 hk2 kn
   refine Q2 ?_
   refine Qa ?_
   simp only [go_sem, reduceIte, reduceEqDiff, reduceAdd, reduceLeDiff, reduceLT, reduceCtorEq]
   simp only [l7, true_and]
   refine Qux ?_
   simp only [go_sem, Q24, l0, l2, l6, l7, l8, l9, reduceIte, reduceEqDiff, reduceAdd, reduceLeDiff, reduceLT, reduceCtorEq]
   refine Qg (Qd rfl ?_ ?_)
   ·intro hc
    have hx8 := kn.l 1 rfl
    refine Qp ?_
    simp only [go_sem, hx8, reduceIte, reduceEqDiff, reduceAdd, reduceLeDiff, reduceLT, reduceCtorEq]
    intro H7 h7
    have kn := kn.stL 1 rfl h7
    exact args many (-1) n H7 k6 hmany hk1 hk2 kn
   ·intro hc
    refine Qf ?_
    simp only [go_sem]
    exact args many to n H6 k6 hmany hk1 hk2 kn
  refine Q2 ?_
  refine Qa ?_
  simp only [go_sem, l0, l2, l6, l7, l8, l9, reduceIte, reduceEqDiff, reduceAdd, reduceLeDiff, reduceLT, reduceCtorEq]
  refine Qg (Qd rfl ?_ ?_)
  ·intro hc
   refine Qp ?_
   simp only [go_sem, reduceIte, reduceEqDiff, reduceAdd, reduceLeDiff, reduceLT, reduceCtorEq]
   refine Qig (ns := [0, 1, 2, 3, 15, 16, 255]) (kn.e 0 rfl) (by omega) (by simp) fun n2 H7 hn2 hu => ?_
   have kn := kn.callE 0 rfl hu (R.o_ne _)
   have hx8 := kn.l 1 rfl
   simp only [go_sem, Q23, hx8, reduceIte, reduceEqDiff, reduceAdd, reduceLeDiff, reduceLT, reduceCtorEq]
   intro H8 h8
   have kn := kn.stL 1 rfl h8
   exact rest2 n2 H8 (k6 + 1) _ (by simp [lk]) (by simp [lk]) (by simp [lk]) (by simp [lk]) (by simp [lk]) (by simp [lk]) (by omega) (by omega) kn
  ·intro hc
   refine Qf ?_
   simp only [go_sem]
   exact rest2 n H6 k6 _ (by simp [lk]) (by simp [lk]) (by simp [lk]) (by simp [lk]) (by simp [lk]) (by simp [lk]) (by omega) (by omega) kn
 refine Q2 ?_
 refine Qa ?_
 simp only [go_sem, reduceIte, reduceEqDiff, reduceAdd, reduceLeDiff, reduceLT, reduceCtorEq]
 refine Qg (Qd rfl ?_ ?_)
 ·intro hop14
  have hc5 := hc.keep kn
  have hok5 := eq_true hc5.s.ok
  refine Q2 ?_
  refine Qa ?_
  simp only [go_sem, how, hlen, hok5, reduceIte, reduceEqDiff, reduceAdd, reduceLeDiff, reduceLT, reduceCtorEq]
  intro hl
  refine Qg (Qd rfl ?_ ?_)
  ·intro h0
   refine Qa ?_
   simp only [go_sem, reduceIte, reduceEqDiff, reduceAdd, reduceLeDiff, reduceLT, reduceCtorEq]
   refine Qa5 (kn.e 0 rfl) (by omega) fun v H6 hv hu => ?_
   have kn := kn.callE 0 rfl hu (R.o_ne _)
   have hx6 := kn.l 0 rfl
   simp only [go_sem, Qaba, hx6, reduceIte, reduceEqDiff, reduceAdd, reduceLeDiff, reduceLT, reduceCtorEq]
   intro H7 h7
   have kn := kn.stL 0 rfl h7
   have hx6 := kn.l 0 rfl
   refine Qj ?_
   simp only [go_sem, Qz, Q9, Qrh, reduceIte, List.mem_singleton, forall_eq, RS.op, hx6, reduceIte, reduceEqDiff, reduceAdd, reduceLeDiff, reduceLT, reduceCtorEq]
   exact ⟨.ag (InsD.mk 13 (-1) [v] 0).cells, FrzL.ag (.cons (Qi rfl) (.cons (Qi rfl) (.cons (FrzR.same (Q6 [v])).sl (.cons (Qi rfl) .nil)))), hK ⟨13, -1, [v], 0⟩ _ (k + 3) (by omega) (by omega) kn.fin (by simp)⟩
  ·intro h0
   have hpos : 0 < rows.length := by
    have : ¬ rows.length = 0 := by simpa using h0
    omega
   refine Qf ?_
   simp only [go_sem]
   refine Qa ?_
   simp only [go_sem, how, hlen, hok5, reduceIte, reduceEqDiff, reduceAdd, reduceLeDiff, reduceLT, reduceCtorEq]
   intro _
   refine Qa5 (kn.e 0 rfl) (by omega) fun v H6 hv hu => ?_
   have kn := kn.callE 0 rfl hu (R.o_ne _)
   rw [if_neg (by omega)] at hv
   obtain ⟨i, rfl⟩ := Int.eq_ofNat_of_zero_le hv.1
   have hi : i < rows.length := by omega
   obtain ⟨p, c1, c2, hrow, hp0, hp3⟩ := hc.r i hi
   have hx8 := kn.l 1 rfl
   simp only [go_sem, Qabb, hx8, reduceIte, reduceEqDiff, reduceAdd, reduceLeDiff, reduceLT, reduceCtorEq]
   intro H7 h7
   have kn := kn.stL 1 rfl h7
   have hx8 := kn.l 1 rfl
   have hc7 := hc.keep kn
   have hok7 := eq_true hc7.s.ok
   have hrw7 := hc7.s.rows
   refine Qp ?_
   simp only [go_sem, how, hlen, hok7, hrw7, hesz, hx8, hi, hrow, reduceIte, reduceEqDiff, reduceAdd, reduceLeDiff, reduceLT, reduceCtorEq]
   exact rest p i H7 (k + 3) _ (by simp [lk]) (by simp [lk]) (by simp [lk]) (by simp [lk]) (by simp [lk]) (by simp [lk]) (by omega) (by omega) (by omega) kn
 ·intro hop14
  refine Qf ?_
  simp only [go_sem]
  exact rest many 0 H5 (k + 2) _ (by simp [lk]) (by simp [lk]) (by simp [lk]) (by simp [lk]) (by simp [lk]) (by simp [lk]) (by omega) (by omega) (by omega) kn
end Go.AE.Y

namespace Go.AE.Y
open Go.Proofs.Tryz
variable {H : Heap} {K : V → Heap → Prop}
theorem Qbau {α : Type} {a M b c : List α} : (a ++ (M ++ b) ++ c).Perm (((M ++ c) ++ b) ++ a) := by
 refine List.perm_append_comm.trans ?_
 refine (List.Perm.append_left _ (List.perm_append_comm (l₁ := a))).trans ?_
 rw [← List.append_assoc]
 refine .append_right _ ?_
 rw [← List.append_assoc]
 exact .append_right _ List.perm_append_comm
def EnvA (R : Rdr) (cc : C) (x4 x5 x8 n b : Nat) (e : Env) : Prop :=
 lk 0 e = .c (.ptr R.l 0) ∧ lk 3 e = .c (.pp [cc]) ∧ lk 4 e = .c (.ptr x4 0) ∧ lk 5 e = .c (.ptr x5 0) ∧ lk 6 e = .c (.int .i64 n) ∧ lk 7 e = .c (.int .i64 b) ∧ lk 8 e = .c (.ptr x8 0)
set_option maxHeartbeats 4000000 in
theorem Qa6t {R : Rdr} {k : Nat} {cc : C} {rows : List (List C)} (hH : H R.l = R.o k) (hk : k + 1000 ≤ 2^40) (hc : CRd H R cc rows)
  (hK : ∀ (o : UCode) (H' : Heap) (k' : Nat), k < k' → k' ≤ k + 1000 → Kn H H' [(R.l, R.o k')] o.lg → o.ok → o.sm 0 → K (.ag o.row) H') :
  Qo prog Q6p [.c (.ptr R.l 0), .ag [cc]] H K := by
 refine Qiz ?_
 refine Qb Qas Qa7b ?_
 have how := hc.ow
 refine Qa ?_
 simp only [go_sem, how, reduceIte, reduceEqDiff, reduceAdd, reduceLeDiff, reduceLT, reduceCtorEq]
 intro x4 hx4 H1 h1
 have kn := (Kn.start1 hH (R.o_ne k)).al hx4 h1
 refine Qa ?_
 simp only [go_sem, reduceIte, reduceEqDiff, reduceAdd, reduceLeDiff, reduceLT, reduceCtorEq]
 refine Qig (ns := [1, 0, 2, 3]) (kn.e 0 rfl) (by omega) (by simp) fun p H2 hp hu => ?_
 have kn := kn.callE 0 rfl hu (R.o_ne _)
 have hp : 0 ≤ p ∧ p ≤ 3 := by simp at hp; omega
 simp only [go_sem, Qaan, reduceIte, reduceEqDiff, reduceAdd, reduceLeDiff, reduceLT, reduceCtorEq]
 intro x5 hx5 H3 h3
 have kn := kn.al hx5 h3
 have hx53 := kn.l 1 rfl
 simp only [go_sem, Qaam, hx53, reduceIte, reduceEqDiff, reduceAdd, reduceLeDiff, reduceLT, reduceCtorEq]
 intro H4 h4
 have kn := kn.stL 1 rfl h4
 have hx54 := kn.l 1 rfl
 refine Qar ?_
 simp only [go_sem, hx54, reduceIte, reduceEqDiff, reduceAdd, reduceLeDiff, reduceLT, reduceCtorEq]
 refine ⟨Qn (by omega) (by omega), ?_⟩
 refine Qa5 (kn.e 0 rfl) (by omega) fun q H5 hq hu => ?_
 have kn := kn.callE 0 rfl hu (R.o_ne _)
 have hx55 := kn.l 1 rfl
 rw [if_neg (by omega)] at hq
 simp only [go_sem, Qaao, hx55, reduceIte, reduceEqDiff, reduceAdd, reduceLeDiff, reduceLT, reduceCtorEq]
 refine ⟨Qn (by omega) (by omega), ?_⟩
 intro H6 h6
 have kn := kn.stL 1 rfl h6
 obtain ⟨rg, hrg⟩ : ∃ rg, p + 2 + q = rg := ⟨_, rfl⟩
 rw [hrg] at kn
 refine Qa ?_
 simp only [go_sem, reduceIte, reduceEqDiff, reduceAdd, reduceLeDiff, reduceLT, reduceCtorEq]
 refine Qig (ns := [3, 5, 2, 1, 7, 4]) (kn.e 0 rfl) (by omega) (by simp) fun n0 H7 hn0 hu => ?_
 have kn := kn.callE 0 rfl hu (R.o_ne _)
 simp only [go_sem, Qaap, reduceIte, reduceEqDiff, reduceAdd, reduceLeDiff, reduceLT, reduceCtorEq]
 obtain ⟨n, rfl, hn1, hn7⟩ : ∃ n : Nat, n0 = n ∧ 1 ≤ n ∧ n ≤ 7 := ⟨n0.toNat, by simp at hn0; omega⟩
 refine Q2 ?_
 refine Qa ?_
 simp only [go_sem, reduceIte, reduceEqDiff, reduceAdd, reduceLeDiff, reduceLT, reduceCtorEq]
 refine Qg (Qc (Qt (fun m e1 H1 => ∃ (b k1 : Nat) (bs : List UBlk) (bc : C) (bl : List (Nat × Obj)), m = n - b ∧ b ≤ n ∧ bs.length = b ∧ k < k1 ∧ k1 ≤ k + 3 + 50 * b ∧ (∀ o ∈ bs, o.ok ∧ o.sm 0) ∧ Gr bl 5 (bs.map UBlk.row) bc ∧
  Kn H H1 [(R.l, R.o k1)] (([(x4, .st [.int .i64 0, .int .i64 0, .sl true 5 []]), (x5, .st [.int .i64 p, .int .i64 rg, bc])] ++ bs.flatMap UBlk.lg) ++ bl) ∧
  e1 = [(0, .c (.ptr R.l 0)), (3, .c (.pp [cc])), (4, .c (.ptr x4 0)), (5, .c (.ptr x5 0)), (6, .c (.int .i64 n)), (7, .c (.int .i64 b))]) n ?_ ?_))
 ·exact ⟨0, k + 1 + 1 + 1, [], _, [], by omega, by omega, rfl, by omega, by omega, by simp, .nil 5, by simpa using kn, rfl⟩
 ·rintro m e1 H8 ⟨b, k1, bs, bc, bl, hm, hb, hbs, hk1, hk2, hok, hgr, kn, rfl⟩
  have hbow := hgr.isOw
  refine Q2 ?_
  refine Qa ?_
  simp only [go_sem, reduceIte, reduceEqDiff, reduceAdd, reduceLeDiff, reduceLT, reduceCtorEq]
  refine Qg (Qd rfl ?_ ?_)
  ·intro hc1
   have hlt : b < n := by simpa using hc1
   refine Qf ?_
   simp only [go_sem]
   refine Qg (Qc ?_)
   refine Qa ?_
   simp only [go_sem, reduceIte, reduceEqDiff, reduceAdd, reduceLeDiff, reduceLT, reduceCtorEq]
   intro x8 hx8 H9 h9
   have kn := kn.al hx8 h9
   have kn := kn.perm List.perm_append_comm
   have hx89 := kn.l 0 rfl
   simp only [go_sem, Qaaq, hx89, reduceIte, reduceEqDiff, reduceAdd, reduceLeDiff, reduceLT, reduceCtorEq]
   intro H10 h10
   have kn := kn.stL 0 rfl h10
   refine Q2 ?_
   refine Qa ?_
   simp only [go_sem, reduceIte, reduceEqDiff, reduceAdd, reduceLeDiff, reduceLT, reduceCtorEq]
   refine Qig (ns := [1, 2, 0, 3, 4]) (kn.e 0 rfl) (by omega) (by simp) fun i0 H11 hi0 hu => ?_
   have kn := kn.callE 0 rfl hu (R.o_ne _)
   simp only [go_sem, Qaar, reduceIte, reduceEqDiff, reduceAdd, reduceLeDiff, reduceLT, reduceCtorEq]
   obtain ⟨i, rfl, hi4⟩ : ∃ i : Nat, i0 = i ∧ i ≤ 4 := ⟨i0.toNat, by simp at hi0; omega⟩
   refine Qg (Qc (Qt (fun m e1 H1 => ∃ (t k2 : Nat) (ds : List InsD) (ic : C) (il : List (Nat × Obj)), m = t ∧ t + ds.length = i ∧ k1 < k2 ∧ k2 ≤ k1 + 1 + 9 * ds.length ∧ (∀ d ∈ ds, d.args.length ≤ 3) ∧ Gr il 4 (Qbz ds) ic ∧
    Kn H H1 [(R.l, R.o k2)] (([(x8, .st [.sl true 2 [], ic, .int .i64 0, .int .i64 0, .sl true 1 []])] ++ (([(x4, .st [.int .i64 0, .int .i64 0, .sl true 5 []]), (x5, .st [.int .i64 p, .int .i64 rg, bc])] ++ bs.flatMap UBlk.lg) ++ bl)) ++ il) ∧
    e1 = [(0, .c (.ptr R.l 0)), (3, .c (.pp [cc])), (4, .c (.ptr x4 0)), (5, .c (.ptr x5 0)), (6, .c (.int .i64 n)), (7, .c (.int .i64 b)), (8, .c (.ptr x8 0)), (9, .c (.int .i64 t))]) i ?_ ?_))
   ·refine ⟨i, k1 + 1, [], _, [], rfl, rfl, by omega, by simp, by simp, .nil 4, by simpa using kn, rfl⟩
   ·rintro m2 e1 H12 ⟨t, k2, ds, ic, il, hm2, ht, hk3, hk4, hds, hgi, kn, rfl⟩
    have hicow := hgi.isOw
    have hx8 := kn.l 0 rfl
    have hx5 := kn.l 2 rfl
    refine Q2 ?_
    refine Qa ?_
    simp only [go_sem, reduceIte, reduceEqDiff, reduceAdd, reduceLeDiff, reduceLT, reduceCtorEq]
    refine Qg (Qd rfl ?_ ?_)
    ·intro hc2
     have ht0 : 0 < t := by simpa using hc2
     refine Qf ?_
     simp only [go_sem]
     refine Qg (Qc ?_)
     refine Qb4 ?_
     simp only [go_sem, hx8, hx5, hicow, hbow, how, reduceIte, reduceEqDiff, reduceAdd, reduceLeDiff, reduceLT, reduceCtorEq]
     refine Qa6v (kn.e 0 rfl) (by omega) (hc.keep kn) fun d H13 k3 hk5 hk6 hu hd => ?_
     have kn := kn.callE 0 rfl hu (R.o_ne _)
     have hx8 := kn.l 0 rfl
     simp only [go_sem, Qaat, hx8, hicow, InsD.take4, InsD.allOw, InsD.len4, reduceIte, reduceEqDiff, reduceAdd, reduceLeDiff, reduceLT, reduceCtorEq]
     refine kn.grow (new := [d.cells]) hgi (.mk' _ _ _ _) (by intro r hr; simp only [List.mem_singleton] at hr; subst hr; rfl) (by simp only [Qaf, LIM, List.length_cons, List.length_nil]; omega) fun y H14 kn => ?_
     have hx8 := kn.l 0 rfl
     simp only [go_sem, Qaas, hx8, reduceIte, reduceEqDiff, reduceAdd, reduceLeDiff, reduceLT, reduceCtorEq]
     intro H15 h15
     have kn := kn.stL 0 rfl h15
     refine Qp ?_
     simp only [go_sem, X.next, reduceIte, reduceEqDiff, reduceAdd, reduceLeDiff, reduceLT, reduceCtorEq]
     refine ⟨Qn (by omega) (by omega), t - 1, by omega, t - 1, k3, ds ++ [d], _, _, rfl, by simp; omega, by omega, by simp; omega, fun d' hd' => ?_, ?_, kn, ?_⟩
     ·rcases List.mem_append.1 hd' with h | h
      ·exact hds _ h
      ·simp only [List.mem_singleton] at h; subst h; exact hd
     ·rw [Qay1]; exact .mk _ _ _ (by simp [Qaf])
     ·have : (t : Int) - 1 = ((t - 1 : Nat) : Int) := by omega
      rw [this]
    ·intro hc2
     have ht0 : t = 0 := by have : ¬ 0 < t := (by simpa using hc2); omega
     refine Qs ?_
     simp only [go_sem, X.next]
     refine Qa ?_
     simp only [go_sem, hx5, hbow, reduceIte, reduceEqDiff, reduceAdd, reduceLeDiff, reduceLT, reduceCtorEq]
     refine Qa5 (kn.e 0 rfl) (by omega) fun on H13 hon hu => ?_
     have kn := kn.callE 0 rfl hu (R.o_ne _)
     have hx8 := kn.l 0 rfl
     simp only [go_sem, Q2v, hx8, hicow, reduceIte, reduceEqDiff, reduceAdd, reduceLeDiff, reduceLT, reduceCtorEq]
     intro H14 h14
     have kn := kn.stL 0 rfl h14
     refine Qa ?_
     simp only [go_sem, reduceIte, reduceEqDiff, reduceAdd, reduceLeDiff, reduceLT, reduceCtorEq]
     refine Qig (ns := [2, 1, 2, 1, 3]) (kn.e 0 rfl) (by omega) (by simp) fun jump H15 hjump hu => ?_
     have kn := kn.callE 0 rfl hu (R.o_ne _)
     have hx8 := kn.l 0 rfl
     simp only [go_sem, Q2w, hx8, hicow, reduceIte, reduceEqDiff, reduceAdd, reduceLeDiff, reduceLT, reduceCtorEq]
     intro H16 h16
     have kn := kn.stL 0 rfl h16
     refine Qc9 (fun e2 H2 => ∃ (k2 : Nat) (jump : Int), k1 < k2 ∧ k2 ≤ k1 + 40 ∧ Kn H H2 [(R.l, R.o k2)] (([(x8, .st [.sl true 2 [], ic, .int .i64 jump, .int .i64 on, .sl true 1 []])] ++ (([(x4, .st [.int .i64 0, .int .i64 0, .sl true 5 []]), (x5, .st [.int .i64 p, .int .i64 rg, bc])] ++ bs.flatMap UBlk.lg) ++ bl)) ++ il) ∧ EnvA R cc x4 x5 x8 n b e2) ?_ ?_
     ·intro Q hn _ _
      have rest : ∀ (v : Bool) (H2 : Heap) (k2 : Nat), k1 < k2 → k2 ≤ k1 + 40 → Kn H H2 [(R.l, R.o k2)] (([(x8, .st [.sl true 2 [], ic, .int .i64 jump, .int .i64 on, .sl true 1 []])] ++ (([(x4, .st [.int .i64 0, .int .i64 0, .sl true 5 []]), (x5, .st [.int .i64 p, .int .i64 rg, bc])] ++ bs.flatMap UBlk.lg) ++ bl)) ++ il) →
        Qae prog Qaal Q [(0, .c (.ptr R.l 0)), (3, .c (.pp [cc])), (4, .c (.ptr x4 0)), (5, .c (.ptr x5 0)), (6, .c (.int .i64 n)), (7, .c (.int .i64 b)), (8, .c (.ptr x8 0)), (68, .c (.bool v))] H2 := by
       intro v H2 k2 hk1 hk2 kn
       refine Qd rfl ?_ ?_
       ·intro hc
        have hx8 := kn.l 0 rfl
        refine Qp ?_
        simp only [go_sem, hx8, hicow, reduceIte, reduceEqDiff, reduceAdd, reduceLeDiff, reduceLT, reduceCtorEq]
        intro H3 h3
        have kn := kn.stL 0 rfl h3
        exact hn _ _ ⟨k2, 3, hk1, hk2, kn, rfl, rfl, rfl, rfl, rfl, rfl, rfl⟩
       ·intro hc
        refine Qf ?_
        exact hn _ _ ⟨k2, jump, hk1, hk2, kn, rfl, rfl, rfl, rfl, rfl, rfl, rfl⟩
      refine Qa ?_
      simp only [go_sem, reduceIte, reduceEqDiff, reduceAdd, reduceLeDiff, reduceLT, reduceCtorEq]
      refine ⟨fun _ => Qn (by omega) (by omega), ?_⟩
      refine ⟨fun hb1 => ?_, fun hb1 => ?_⟩
      ·refine Qa5 (kn.e 0 rfl) (by omega) fun v H17 hv hu => ?_
       have kn := kn.callE 0 rfl hu (R.o_ne _)
       simp only [go_sem, Qhl, hb1, reduceIte, reduceEqDiff, reduceAdd, reduceLeDiff, reduceLT, reduceCtorEq]
       exact rest _ _ _ (by omega) (by omega) kn
      ·by_cases h1 : (n : Int) = 1
       ·have hd := decide_eq_true h1
        have hd2 : decide ((b : Int) = n - 1) = true := decide_eq_true (by omega)
        simp only [go_sem, Qhl, hd, hd2, Bool.not_true, cond_true, cond_false, reduceIte, reduceEqDiff, reduceAdd, reduceLeDiff, reduceLT, reduceCtorEq]
        exact rest true _ _ (by omega) (by omega) kn
       ·have h2 : ¬ (b : Int) = n - 1 := by simpa [h1] using hb1
        simp only [go_sem, Qhl, hb1, h1, h2, decide_false, Bool.not_false, cond_true, cond_false, reduceIte, reduceEqDiff, reduceAdd, reduceLeDiff, reduceLT, reduceCtorEq]
        exact rest false _ _ (by omega) (by omega) kn
     rintro e2 H17 ⟨k3, jump, hk5, hk6, kn, l0, l3, l4, l5, l6, l7, l8⟩
     refine Qc9 (fun e2 H2 => ∃ (k2 : Nat) (jump on : Int) (nfl : Bool) (next : List Int), next.length ≤ 2 ∧ k1 < k2 ∧ k2 ≤ k1 + 50 ∧ Kn H H2 [(R.l, R.o k2)] (([(x8, .st [.sl true 2 [], ic, .int .i64 jump, .int .i64 on, .sl nfl 1 (Qh next)])] ++ (([(x4, .st [.int .i64 0, .int .i64 0, .sl true 5 []]), (x5, .st [.int .i64 p, .int .i64 rg, bc])] ++ bs.flatMap UBlk.lg) ++ bl)) ++ il) ∧ EnvA R cc x4 x5 x8 n b e2) ?_ ?_
     ·intro Q hn _ _
      have hx8 := kn.l 0 rfl
      refine Qa ?_
      simp only [go_sem, hx8, l0, l3, l4, l5, l6, l7, l8, hicow, reduceIte, reduceEqDiff, reduceAdd, reduceLeDiff, reduceLT, reduceCtorEq]
      refine Qc ?_
      refine Qa ?_
      simp only [go_sem, reduceIte, reduceEqDiff, reduceAdd, reduceLeDiff, reduceLT, reduceCtorEq]
      refine Qd rfl ?_ ?_
      ·intro hc
       refine Qa ?_
       simp only [go_sem, hx8, hicow, reduceIte, reduceEqDiff, reduceAdd, reduceLeDiff, reduceLT, reduceCtorEq]
       intro H18 h18
       have kn := kn.stL 0 rfl h18
       refine Qp ?_
       simp only [go_sem, reduceIte, reduceEqDiff, reduceAdd, reduceLeDiff, reduceLT, reduceCtorEq]
       refine Qa2z (kn.e 0 rfl) (by omega) (by omega) (by omega) fun v1 H19 k4 hk7 hk8 hu => ?_
       have kn := kn.callE 0 rfl hu (R.o_ne _)
       have hx8 := kn.l 0 rfl
       simp only [go_sem, Q2x, hx8, hicow, reduceIte, reduceEqDiff, reduceAdd, reduceLeDiff, reduceLT, reduceCtorEq]
       intro H20 h20
       have kn := kn.stL 0 rfl h20
       exact hn _ _ ⟨k4, jump, 0, true, [v1], by simp, by omega, by omega, kn, rfl, rfl, rfl, rfl, rfl, rfl, rfl⟩
      ·intro hc
       refine Qa ?_
       simp only [go_sem, reduceIte, reduceEqDiff, reduceAdd, reduceLeDiff, reduceLT, reduceCtorEq]
       refine Qd rfl ?_ ?_
       ·intro hc
        refine Qp ?_
        simp only [go_sem, reduceIte, reduceEqDiff, reduceAdd, reduceLeDiff, reduceLT, reduceCtorEq]
        refine Qa2z (kn.e 0 rfl) (by omega) (by omega) (by omega) fun v1 H19 k4 hk7 hk8 hu => ?_
        have kn := kn.callE 0 rfl hu (R.o_ne _)
        simp only [go_sem, Q2z, reduceIte, reduceEqDiff, reduceAdd, reduceLeDiff, reduceLT, reduceCtorEq]
        refine Qa2z (kn.e 0 rfl) (by omega) (by omega) (by omega) fun v2 H20 k5 hk9 hk10 hu => ?_
        have kn := kn.callE 0 rfl hu (R.o_ne _)
        have hx8 := kn.l 0 rfl
        simp only [go_sem, Q2y, hx8, hicow, reduceIte, reduceEqDiff, reduceAdd, reduceLeDiff, reduceLT, reduceCtorEq]
        intro H21 h21
        have kn := kn.stL 0 rfl h21
        exact hn _ _ ⟨k5, jump, on, true, [v1, v2], by simp, by omega, by omega, kn, rfl, rfl, rfl, rfl, rfl, rfl, rfl⟩
       ·intro hc
        refine Qf ?_
        exact hn _ _ ⟨k3, jump, on, true, [], by simp, by omega, by omega, kn, rfl, rfl, rfl, rfl, rfl, rfl, rfl⟩
     rintro e3 H18 ⟨k4, jump, on, nfl, next, hnx, hk7, hk8, kn, l0, l3, l4, l5, l6, l7, l8⟩
     have hx8 := kn.l 0 rfl
     have hx5 := kn.l 2 rfl
     refine Qp ?_
     simp only [go_sem, hx8, hx5, l0, l3, l4, l5, l6, l7, l8, hicow, hbow, reduceIte, reduceEqDiff, reduceAdd, reduceLeDiff, reduceLT, reduceCtorEq]
     obtain ⟨o, ho⟩ : ∃ o : UBlk, o = ⟨[], .sl true 2 [], [], ds, ic, il, jump, on, nfl, next⟩ := ⟨_, rfl⟩
     have hor : [C.sl true 2 [], ic, C.int IntKind.i64 jump, C.int IntKind.i64 on, C.sl nfl 1 (Qh next)] = o.row := by rw [ho]; rfl
     have hol : o.lg = il := by rw [ho]; simp [UBlk.lg]
     have hook : o.ok := by rw [ho]; exact ⟨.nil 2, hgi, by simp⟩
     have hosm : o.sm 0 := by rw [ho]; exact ⟨hnx, by show ds.length ≤ _; omega, by simp, fun d hd => by have := hds d hd; omega, by simp⟩
     rw [hor]
     have kn := (kn.perm Qbau).drop
     refine kn.grow (new := [o.row]) hgr (.mk' _ _ _ _) (by intro r hr; simp only [List.mem_singleton] at hr; subst hr; exact o.noOw hook) (by simp only [List.length_map, List.length_cons, List.length_nil, LIM]; omega) fun z H19 kn => ?_
     have kn : Kn H H19 [(R.l, R.o k4)] (([(x4, .st [.int .i64 0, .int .i64 0, .sl true 5 []]), (x5, .st [.int .i64 p, .int .i64 rg, bc])] ++ (bs ++ [o]).flatMap UBlk.lg) ++ [(z, .vec 5 ((bs ++ [o]).map UBlk.row))]) := by
      simpa [List.flatMap_append, List.append_assoc, hol] using kn
     have hx5 := kn.l 1 rfl
     simp only [go_sem, Q20, hx5, l0, l3, l4, l5, l6, l7, hbow, reduceIte, reduceEqDiff, reduceAdd, reduceLeDiff, reduceLT, reduceCtorEq]
     intro H20 h20
     have kn := kn.stL 1 rfl h20
     refine Qp ?_
     simp only [go_sem, X.next, reduceIte, reduceEqDiff, reduceAdd, reduceLeDiff, reduceLT, reduceCtorEq]
     refine ⟨Qn (by omega) (by omega), n - (b + 1), by omega, b + 1, k4, bs ++ [o], _, _, rfl, by omega, by simp [hbs], by omega, by omega, fun o' ho' => ?_, .mk _ _ _ (by simp), kn, rfl⟩
     rcases List.mem_append.1 ho' with h | h
     ·exact hok o' h
     ·simp only [List.mem_singleton] at h; subst h; exact ⟨hook, hosm⟩
  ·intro hc1
   have hbn : b = n := by have : ¬ b < n := (by simpa using hc1); omega
   have hx4 := kn.l 0 rfl
   have hx5 := kn.l 1 rfl
   refine Qs ?_
   simp only [go_sem, X.next]
   refine Qa ?_
   simp only [go_sem, hx5, hx4, hbow, reduceIte, reduceEqDiff, reduceAdd, reduceLeDiff, reduceLT, reduceCtorEq]
   intro H9 h9
   have kn := kn.stL 0 rfl h9
   have hx4 := kn.l 0 rfl
   refine Qj ?_
   simp only [go_sem, Qz, Q9, Qax5, reduceIte, List.mem_singleton, forall_eq, RS.op, hx4, hbow, reduceIte, reduceEqDiff, reduceAdd, reduceLeDiff, reduceLT, reduceCtorEq]
   obtain ⟨o, ho⟩ : ∃ o : UCode, o = ⟨p, rg, bs, bc, bl⟩ := ⟨_, rfl⟩
   have hook : o.ok := by rw [ho]; exact ⟨hgr, fun b hb => (hok b hb).1, hp.1, hp.2⟩
   have hosm : o.sm 0 := by rw [ho]; exact ⟨by show 0 < bs.length; omega, by show bs.length ≤ _; omega, fun b hb => (hok b hb).2⟩
   have kn : Kn H H9 [(R.l, R.o k1)] ([(x4, .st [.int .i64 p, .int .i64 rg, bc]), (x5, .st [.int .i64 p, .int .i64 rg, bc])] ++ o.lg) := by
    rw [ho]; simpa [UCode.lg, List.append_assoc] using kn
   refine ⟨unx H o.lg, .ag o.row, H9.frz (unx H o.lg), ?_, Qg2 _ _, hK o _ k1 hk1 (by omega) kn.finK hook hosm⟩
   rw [ho]
   exact FrzL.ag (.cons (Qi rfl) (.cons (Qi rfl) (.cons (.same _ hbow) .nil)))
end Go.AE.Y

namespace Go.AE.Y
open Go.Proofs.Tryz
variable {H : Heap} {K : V → Heap → Prop}
end Go.AE.Y
namespace Go.AE
open Go.AE.Y
open Go.Proofs.Tryz
variable {H : Heap} {K : V → Heap → Prop}
theorem Gr.slc {H0 H : Heap} {E B Lg : List (Nat × Obj)} {sz : Nat} {rows : List (List C)} {c : C} (h : Gr Lg sz rows c) (kn : Kn H0 H E (B ++ Lg)) : Slc H sz rows c := by
 obtain ⟨h1, h2⟩ := h.get kn
 exact ⟨h1, h.elemSz, h2, h.lenC⟩
end Go.AE
namespace Go.AE.Y
open Go.Proofs.Tryz
variable {H : Heap} {K : V → Heap → Prop}
end Go.AE.Y
namespace Go.AE
open Go.AE.Y
open Go.Proofs.Tryz
variable {H : Heap} {K : V → Heap → Prop}
theorem Gr.ne {H0 H : Heap} {E B Lg : List (Nat × Obj)} {sz : Nat} {rows : List (List C)} {c : C} {r : Nat} {o : Obj} (h : Gr Lg sz rows c) (kn : Kn H0 H E (B ++ Lg)) (hr : (r, o) ∈ E) : ∀ l a d n, c = .vsl l a d n → l ≠ r := by
 intro l a d n hc hh
 rcases h with ⟨h1, _⟩ | ⟨y, h1, h2⟩
 ·rw [h1] at hc; simp at hc
 ·rw [h1] at hc
  have hy : y = l := by injection hc
  have := kn.loc (y, .vec sz rows) (by rw [h2]; simp)
  exact kn.ext (r, o) hr (by rw [← hh, ← hy]; exact this)
end Go.AE
namespace Go.AE.Y
open Go.Proofs.Tryz
variable {H : Heap} {K : V → Heap → Prop}
end Go.AE.Y
namespace Go.AE
open Go.AE.Y
open Go.Proofs.Tryz
variable {H : Heap} {K : V → Heap → Prop}
theorem Gr.slcM {H0 H : Heap} {E L Lg : List (Nat × Obj)} {sz : Nat} {rows : List (List C)} {c : C} (h : Gr Lg sz rows c) (kn : Kn H0 H E L) (hm : ∀ p ∈ Lg, p ∈ L) : Slc H sz rows c := by
 rcases h with ⟨h1, h2, h3⟩ | ⟨y, h1, h2⟩
 ·rw [h1, h2]; exact .mk' _ _ _ _
 ·have hy : H y = .vec sz rows := (kn.get (y, .vec sz rows) (List.mem_append_right _ (hm _ (by rw [h2]; simp)))).1
  rw [h1]; exact ⟨by simp [Go.AE.okSl, hy], rfl, by simp [Go.AE.rowsOf, hy], rfl⟩
end Go.AE
namespace Go.AE.Y
open Go.Proofs.Tryz
variable {H : Heap} {K : V → Heap → Prop}
theorem Qbbk {H0 H : Heap} {B cl : List (Nat × Obj)} {R : Rdr} {o : Obj} {us : List UCode} {cc : C} (hg : Gr cl 3 (us.map UCode.row) cc) (kn : Kn H0 H [(R.l, o)] (B ++ cl)) (hu : ∀ u ∈ us, u.ok) : CRd H R cc (us.map UCode.row) := by
 refine ⟨hg.slc kn, hg.isOw, hg.ne kn (o := o) (by simp), fun i hi => ?_⟩
 rw [List.length_map] at hi
 refine ⟨us[i].params, .int .i64 us[i].regs, us[i].bc, by simp [List.getD_eq_getElem?_getD, hi, UCode.row], (hu _ (List.getElem_mem hi)).p0, (hu _ (List.getElem_mem hi)).p1⟩
set_option maxHeartbeats 4000000 in
theorem Qaxw {R : Rdr} {k : Nat} (hH : H R.l = R.o k) (hk : k + 10000 ≤ 2^40)
  (hK : ∀ (cs : List CodeD) (H' : Heap) (k' : Nat), k < k' → k' ≤ k + 10000 → Upd H H' [(R.l, R.o k')] → 0 < cs.length → cs.length ≤ 3 → (∀ c ∈ cs, c.sm) → K (.ag [.sl false 3 (Qm cs)]) H') :
  Qo prog Quq [.c (.ptr R.l 0)] H K := by
 refine Q0 ?_
 refine Qb Qas Qa7f ?_
 refine Qa ?_
 simp only [go_sem, reduceIte, reduceEqDiff, reduceAdd, reduceLeDiff, reduceLT, reduceCtorEq]
 intro x2 hx2 H1 h1
 have kn := (Kn.start1 hH (R.o_ne k)).al hx2 h1
 refine Qa ?_
 simp only [go_sem, reduceIte, reduceEqDiff, reduceAdd, reduceLeDiff, reduceLT, reduceCtorEq]
 intro x3 hx3 H2 h2
 have kn := kn.al hx3 h2
 have hx32 := kn.l 1 rfl
 simp only [go_sem, Qabd, hx32, reduceIte, reduceEqDiff, reduceAdd, reduceLeDiff, reduceLT, reduceCtorEq]
 intro H3 h3
 have kn := kn.stL 1 rfl h3
 refine Q2 ?_
 refine Qa ?_
 simp only [go_sem, reduceIte, reduceEqDiff, reduceAdd, reduceLeDiff, reduceLT, reduceCtorEq]
 refine Qig (ns := [1, 2, 1, 3]) (kn.e 0 rfl) (by omega) (by simp) fun i0 H4 hi0 hu => ?_
 have kn := kn.callE 0 rfl hu (R.o_ne _)
 simp only [go_sem, Qabe, reduceIte, reduceEqDiff, reduceAdd, reduceLeDiff, reduceLT, reduceCtorEq]
 obtain ⟨i, rfl, hi1, hi3⟩ : ∃ i : Nat, i0 = i ∧ 1 ≤ i ∧ i ≤ 3 := ⟨i0.toNat, by simp at hi0; omega⟩
 refine Qg (Qc (Qt (fun m e1 H1 => ∃ (t k1 : Nat) (us : List UCode) (cc : C) (cl : List (Nat × Obj)), m = t ∧ t + us.length = i ∧ k < k1 ∧ k1 ≤ k + 1 + 1000 * us.length ∧ (∀ u ∈ us, u.ok ∧ u.sm 0) ∧ Gr cl 3 (us.map UCode.row) cc ∧
  Kn H H1 [(R.l, R.o k1)] (([(x2, .st [.sl true 3 []]), (x3, .st [cc])] ++ us.flatMap UCode.lg) ++ cl) ∧
  e1 = [(0, .c (.ptr R.l 0)), (2, .c (.ptr x2 0)), (3, .c (.ptr x3 0)), (4, .c (.int .i64 t))]) i ?_ ?_))
 ·exact ⟨i, k + 1, [], _, [], rfl, rfl, by omega, by simp, by simp, .nil 3, by simpa using kn, rfl⟩
 ·rintro m e1 H5 ⟨t, k1, us, cc, cl, hm, ht, hk1, hk2, hok, hgr, kn, rfl⟩
  have hcow := hgr.isOw
  have hx3 := kn.l 1 rfl
  refine Q2 ?_
  refine Qa ?_
  simp only [go_sem, reduceIte, reduceEqDiff, reduceAdd, reduceLeDiff, reduceLT, reduceCtorEq]
  refine Qg (Qd rfl ?_ ?_)
  ·intro hc
   have ht0 : 0 < t := by simpa using hc
   refine Qf ?_
   simp only [go_sem]
   refine Qg (Qc (Qb4 ?_))
   simp only [go_sem, hx3, hcow, reduceIte, reduceEqDiff, reduceAdd, reduceLeDiff, reduceLT, reduceCtorEq]
   refine Qa6t (kn.e 0 rfl) (by omega) (Qbbk hgr kn fun u hu => (hok u hu).1) fun o H6 k2 hk3 hk4 kn2 hoo hos => ?_
   have kn := kn.compE 0 rfl kn2
   have hx3 := kn.l 1 rfl
   simp only [go_sem, Qabg, hx3, hcow, o.len3, reduceIte, reduceEqDiff, reduceAdd, reduceLeDiff, reduceLT, reduceCtorEq]
   have kn := kn.perm Qanf
   refine kn.grow (new := [o.row]) hgr (.mk' _ _ _ _) (by intro r hr; simp only [List.mem_singleton] at hr; subst hr; exact o.noOw hoo) (by simp only [List.length_map, List.length_cons, List.length_nil, LIM]; omega) fun z H7 kn => ?_
   have kn : Kn H H7 [(R.l, R.o k2)] (([(x2, .st [.sl true 3 []]), (x3, .st [cc])] ++ (us ++ [o]).flatMap UCode.lg) ++ [(z, .vec 3 ((us ++ [o]).map UCode.row))]) := by
    simpa [List.flatMap_append, List.append_assoc] using kn
   have hx3 := kn.l 1 rfl
   simp only [go_sem, Qabf, hx3, reduceIte, reduceEqDiff, reduceAdd, reduceLeDiff, reduceLT, reduceCtorEq]
   intro H8 h8
   have kn := kn.stL 1 rfl h8
   refine Qp ?_
   simp only [go_sem, X.next, reduceIte, reduceEqDiff, reduceAdd, reduceLeDiff, reduceLT, reduceCtorEq]
   refine ⟨Qn (by omega) (by omega), t - 1, by omega, t - 1, k2, us ++ [o], _, _, rfl, by simp; omega, by omega, by simp; omega, fun o' ho' => ?_, .mk _ _ _ (by simp), kn, ?_⟩
   ·rcases List.mem_append.1 ho' with h | h
    ·exact hok o' h
    ·simp only [List.mem_singleton] at h; subst h; exact ⟨hoo, hos⟩
   ·have : (t : Int) - 1 = ((t - 1 : Nat) : Int) := by omega
    rw [this]
  ·intro hc
   have ht0 : t = 0 := by have : ¬ 0 < t := (by simpa using hc); omega
   refine Qs ?_
   simp only [go_sem, X.next]
   refine Q2 ?_
   refine Qa ?_
   simp only [go_sem, reduceIte, reduceEqDiff, reduceAdd, reduceLeDiff, reduceLT, reduceCtorEq]
   refine Qig (ns := [0, 0, 1, 3]) (kn.e 0 rfl) (by omega) (by simp) fun j0 H6 hj0 hu => ?_
   have kn := kn.callE 0 rfl hu (R.o_ne _)
   simp only [go_sem, Qabh, reduceIte, reduceEqDiff, reduceAdd, reduceLeDiff, reduceLT, reduceCtorEq]
   obtain ⟨j, rfl, hj3⟩ : ∃ j : Nat, j0 = j ∧ j ≤ 3 := ⟨j0.toNat, by simp at hj0; omega⟩
   have hcl : 0 < us.length := by omega
   have hcl3 : us.length ≤ 3 := by omega
   refine Qg (Qc (Qt (fun m e1 H1 => ∃ (t k2 N : Nat) (us : List UCode), m = t ∧ t + N = j ∧ us.length = i ∧ k < k2 ∧ k2 ≤ k1 + 1 + 200 * N ∧ (∀ u ∈ us, u.ok ∧ u.sm N) ∧ Gr cl 3 (us.map UCode.row) cc ∧
    Kn H H1 [(R.l, R.o k2)] (([(x2, .st [.sl true 3 []]), (x3, .st [cc])] ++ us.flatMap UCode.lg) ++ cl) ∧
    e1 = [(0, .c (.ptr R.l 0)), (2, .c (.ptr x2 0)), (3, .c (.ptr x3 0)), (5, .c (.int .i64 t))]) j ?_ ?_))
   ·exact ⟨j, k1 + 1, 0, us, rfl, rfl, by omega, by omega, by omega, hok, hgr, kn, rfl⟩
   ·rintro m e1 H7 ⟨t, k2, N, us, hm, ht, hui, hk3, hk4, hok, hgr, kn, rfl⟩
    have hx3 := kn.l 1 rfl
    refine Q2 ?_
    refine Qa ?_
    simp only [go_sem, reduceIte, reduceEqDiff, reduceAdd, reduceLeDiff, reduceLT, reduceCtorEq]
    refine Qg (Qd rfl ?_ ?_)
    ·intro hc
     have ht0 : 0 < t := by simpa using hc
     refine Qf ?_
     simp only [go_sem]
     have hmem : ∀ p ∈ cl, p ∈ (([(x2, .st [.sl true 3 []]), (x3, .st [cc])] ++ us.flatMap UCode.lg) ++ cl) := fun p hp => by simp [hp]
     refine Qc9 (fun e2 H2 => ∃ (k3 : Nat) (us : List UCode), us.length = i ∧ k < k3 ∧ k3 ≤ k2 + 200 ∧ (∀ u ∈ us, u.ok ∧ u.sm (N + 1)) ∧ Gr cl 3 (us.map UCode.row) cc ∧
      Kn H H2 [(R.l, R.o k3)] (([(x2, .st [.sl true 3 []]), (x3, .st [cc])] ++ us.flatMap UCode.lg) ++ cl) ∧ lk 0 e2 = .c (.ptr R.l 0) ∧ lk 2 e2 = .c (.ptr x2 0) ∧ lk 3 e2 = .c (.ptr x3 0) ∧ lk 5 e2 = .c (.int .i64 t)) ?_ ?_
     ·intro Q hn _ _
      have hs := hgr.slc kn
      have hsok := eq_true hs.ok
      have hlen := hs.len
      have hsz := hs.sz
      rw [List.length_map] at hlen
      refine Qc ?_
      refine Qar ?_
      simp only [go_sem, hx3, hcow, hsok, hlen, reduceIte, reduceEqDiff, reduceAdd, reduceLeDiff, reduceLT, reduceCtorEq]
      refine Qa5 (kn.e 0 rfl) (by omega) fun v H8 hv hu => ?_
      have kn := kn.callE 0 rfl hu (R.o_ne _)
      rw [if_neg (by omega)] at hv
      obtain ⟨ci, rfl⟩ := Int.eq_ofNat_of_zero_le hv.1
      have hci : ci < us.length := by omega
      have hx3 := kn.l 1 rfl
      have hs := hgr.slc kn
      have hsok := eq_true hs.ok
      simp only [go_sem, Qabi, hx3, hcow, hsok, hlen, hsz, hci, reduceIte, reduceEqDiff, reduceAdd, reduceLeDiff, reduceLT, reduceCtorEq]
      obtain ⟨u, hu⟩ : ∃ u, us[ci] = u := ⟨_, rfl⟩
      obtain ⟨huok, husm⟩ := hok _ (List.getElem_mem hci)
      rw [hu] at huok husm
      have hrow : (us.map UCode.row).getD ci [] = [.int .i64 u.params, .int .i64 u.regs, u.bc] := by rw [← hu]; simp [List.getD_eq_getElem?_getD, hci, UCode.row]
      have hub0 := husm.b0
      have hub1 := husm.b
      obtain ⟨yb, hbc, hbl⟩ := UCode.bvec huok hub0
      have hblow := huok.b.isOw
      have hblen := huok.b.lenC
      rw [List.length_map] at hblen
      have hrws := hs.rows
      have hmemb : ∀ p ∈ u.bl, p ∈ (([(x2, .st [.sl true 3 []]), (x3, .st [cc])] ++ us.flatMap UCode.lg) ++ cl) := fun p hp => by
       have : p ∈ us.flatMap UCode.lg := List.mem_flatMap.2 ⟨u, by rw [← hu]; exact List.getElem_mem hci, List.mem_append_right _ hp⟩
       simp [this]
      have hbok := eq_true (huok.b.slcM kn hmemb).ok
      refine Qa ?_
      simp only [go_sem, hx3, hcow, hsok, hlen, hsz, hci, hrws, hrow, hblow, hblen, hbok, reduceIte, reduceEqDiff, reduceAdd, reduceLeDiff, reduceLT, reduceCtorEq]
      intro _
      refine Qa5 (kn.e 0 rfl) (by omega) fun v H9 hv hu9 => ?_
      have kn := kn.callE 0 rfl hu9 (R.o_ne _)
      rw [if_neg (by omega)] at hv
      obtain ⟨bi, rfl⟩ := Int.eq_ofNat_of_zero_le hv.1
      have hbi : bi < u.blocks.length := by omega
      have hsok := eq_true (hgr.slcM kn hmem).ok
      have hrws := (hgr.slcM kn hmem).rows
      simp only [go_sem, Qabj, reduceIte, reduceEqDiff, reduceAdd, reduceLeDiff, reduceLT, reduceCtorEq]
      refine Qa ?_
      simp only [go_sem, hcow, hsok, hlen, hsz, hci, hrws, hrow, hblow, reduceIte, reduceEqDiff, reduceAdd, reduceLeDiff, reduceLT, reduceCtorEq]
      refine Qa5 (kn.e 0 rfl) (by omega) fun to H10 _ hu10 => ?_
      have kn := kn.callE 0 rfl hu10 (R.o_ne _)
      simp only [go_sem, Q28, reduceIte, reduceEqDiff, reduceAdd, reduceLeDiff, reduceLT, reduceCtorEq]
      intro x8 hx8 H11 h11
      have kn := kn.al hx8 h11
      have kn := kn.perm List.perm_append_comm
      have hx8 := kn.l 0 rfl
      simp only [go_sem, Q27, hx8, reduceIte, reduceEqDiff, reduceAdd, reduceLeDiff, reduceLT, reduceCtorEq]
      intro H12 h12
      have kn : Kn H H12 [(R.l, R.o (k2 + 1 + 1 + 1))] ([(x8, .st [.int .i64 to, .sl true 1 []])] ++ (([(x2, .st [.sl true 3 []]), (x3, .st [cc])] ++ us.flatMap UCode.lg) ++ cl)) := kn.stL 0 rfl h12
      have hmem2 : ∀ p ∈ cl, p ∈ ([(x8, Obj.st [.int .i64 to, .sl true 1 []])] ++ (([(x2, .st [.sl true 3 []]), (x3, .st [cc])] ++ us.flatMap UCode.lg) ++ cl)) := fun p hp => List.mem_append_right _ (hmem p hp)
      have hsok := eq_true (hgr.slcM kn hmem2).ok
      have hrws := (hgr.slcM kn hmem2).rows
      have hbs := huok.b.slcM kn (fun p hp => List.mem_append_right _ (hmemb p hp))
      refine Q2 ?_
      refine Qa ?_
      simp only [go_sem, hcow, hsok, hlen, hsz, hci, hrws, hrow, hblow, reduceIte, reduceEqDiff, reduceAdd, reduceLeDiff, reduceLT, reduceCtorEq]
      refine Q62 (rows := u.blocks.map UBlk.row) (nx := fun i => (u.blocks.map UBlk.next).getD i []) hbs hblow (fun i hi => ?_) fun H13 hu13 => ?_
      ·rw [List.length_map] at hi
       refine ⟨u.blocks[i].pc, u.blocks[i].ic, .int .i64 u.blocks[i].jump, .int .i64 u.blocks[i].on, u.blocks[i].nfl, ?_⟩
       simp [List.getD_eq_getElem?_getD, hi, UBlk.row]
      have kn := kn.call0 hu13
      obtain ⟨ps, hps⟩ : ∃ ps, Qam (fun i => (u.blocks.map UBlk.next).getD i []) (bi : Int) (u.blocks.map UBlk.row).length = ps := ⟨_, rfl⟩
      have hpsl : ps.length ≤ 160 := by
       have := Qk0 (fun i => (u.blocks.map UBlk.next).getD i []) (bi : Int) (u.blocks.map UBlk.row).length
       rw [hps, List.length_map] at this; omega
      rw [hps]
      simp only [go_sem, Q29, Qe, reduceIte, reduceEqDiff, reduceAdd, reduceLeDiff, reduceLT, reduceCtorEq]
      intro _
      refine Qg (Qc (Qt (fun m e1 H1 => ∃ (q : Nat) (ns : List Int) (ac : C) (al : List (Nat × Obj)), m = ps.length - q ∧ q ≤ ps.length ∧ ns.length = q ∧ Gr al 1 (Qh ns) ac ∧
       Kn H H1 [(R.l, R.o (k2 + 1 + 1 + 1 + q))] (([(x8, .st [.int .i64 to, ac])] ++ (([(x2, .st [.sl true 3 []]), (x3, .st [cc])] ++ us.flatMap UCode.lg) ++ cl)) ++ al) ∧
       e1 = [(0, .c (.ptr R.l 0)), (2, .c (.ptr x2 0)), (3, .c (.ptr x3 0)), (5, .c (.int .i64 t)), (6, .c (cc.ep 3 ci 0)), (7, .c (.int .i64 bi)), (8, .c (.ptr x8 0)), (59, .c (.int .i64 ps.length)), (60, .c (.int .i64 q))]) ps.length ?_ ?_))
      ·exact ⟨0, [], _, [], by omega, by omega, rfl, .nil 1, by simpa using kn, rfl⟩
      ·rintro m2 e1 H14 ⟨q, ns, ac, al, hm2, hq, hns, hga, kn, rfl⟩
       have hacow := hga.isOw
       have hx8 := kn.l 0 rfl
       have hmem3 : ∀ p ∈ cl, p ∈ (([(x8, Obj.st [.int .i64 to, ac])] ++ (([(x2, .st [.sl true 3 []]), (x3, .st [cc])] ++ us.flatMap UCode.lg) ++ cl)) ++ al) := fun p hp => List.mem_append_left _ (List.mem_append_right _ (hmem p hp))
       have hsok := eq_true (hgr.slcM kn hmem3).ok
       have hrws := (hgr.slcM kn hmem3).rows
       refine Qa ?_
       simp only [go_sem, reduceIte, reduceEqDiff, reduceAdd, reduceLeDiff, reduceLT, reduceCtorEq]
       refine Qg (Qd rfl ?_ ?_)
       ·intro hc
        have hlt : q < ps.length := by simpa using hc
        refine Qf ?_
        simp only [go_sem]
        refine Qg (Qc (Qb4 ?_))
        simp only [go_sem, hx8, hacow, hcow, hsok, hlen, hsz, hci, hrws, hrow, hblow, reduceIte, reduceEqDiff, reduceAdd, reduceLeDiff, reduceLT, reduceCtorEq]
        refine Qa5 (kn.e 0 rfl) (by omega) fun v H15 _ hu15 => ?_
        have kn := kn.callE 0 rfl hu15 (R.o_ne _)
        have hx8 := kn.l 0 rfl
        simp only [go_sem, Q3b, hx8, hacow, reduceIte, reduceEqDiff, reduceAdd, reduceLeDiff, reduceLT, reduceCtorEq]
        refine kn.grow (new := Qh [v]) hga (.mk' _ _ _ _) (Q6 _) (by simp only [Qe, LIM, List.length_cons, List.length_nil]; omega) fun y H16 kn => ?_
        have hx8 := kn.l 0 rfl
        simp only [go_sem, Q3a, hx8, reduceIte, reduceEqDiff, reduceAdd, reduceLeDiff, reduceLT, reduceCtorEq]
        intro H17 h17
        have kn := kn.stL 0 rfl h17
        refine Qp ?_
        simp only [go_sem, X.next, reduceIte, reduceEqDiff, reduceAdd, reduceLeDiff, reduceLT, reduceCtorEq]
        refine ⟨Qn (by omega) (by omega), ps.length - (q + 1), by omega, q + 1, ns ++ [v], _, _, rfl, by omega, by simp [hns], ?_, kn, rfl⟩
        rw [← Qc5]
        exact .mk _ _ _ (by simp [Qc5, Qe])
       ·intro hc
        have hqp : q = ps.length := by have : ¬ q < ps.length := (by simpa using hc); omega
        refine Qs ?_
        simp only [go_sem, X.next]
        refine Qa ?_
        simp only [go_sem, reduceIte, reduceEqDiff, reduceAdd, reduceLeDiff, reduceLT, reduceCtorEq]
        refine Qd rfl ?_ ?_
        ·intro hc
         obtain ⟨blk, hblk⟩ : ∃ blk, u.blocks[bi] = blk := ⟨_, rfl⟩
         have hbok2 := huok.bs _ (List.getElem_mem hbi)
         have hbsm2 := husm.bs _ (List.getElem_mem hbi)
         rw [hblk] at hbok2 hbsm2
         have hbp := hbsm2.p
         have hbr : (u.blocks.map UBlk.row).getD bi [] = [blk.pc, blk.ic, .int .i64 blk.jump, .int .i64 blk.on, .sl blk.nfl 1 (Qh blk.next)] := by rw [← hblk]; simp [List.getD_eq_getElem?_getD, hbi, UBlk.row]
         have hpcow := hbok2.p.isOw
         have hbl5 : (u.blocks.map UBlk.row).length = u.blocks.length := by simp
         have kn : Kn H H14 [(R.l, R.o (k2 + 1 + 1 + 1 + q))] (([(yb, .vec 5 (u.blocks.map UBlk.row))] ++ ([(x8, .st [.int .i64 to, ac])] ++ ([(x2, .st [.sl true 3 []]), (x3, .st [cc])] ++ (blk.core ++ (al ++ (Qamd us ci bi hci ++ cl)))))) ++ blk.pl) := kn.perm (Q8 fun f hf h0 hc1 hp => by
          have h1 := hp _ _ (Qa8s us ci bi hci (by rw [hu]; exact hbi))
          subst hu
          rw [hblk, hbl] at h1
          simp only [hf] at h1 ⊢
          omega)
         have hyb := kn.l 0 rfl
         have hx8 := kn.l 1 rfl
         have hmem4 : ∀ p ∈ cl, p ∈ (([(yb, Obj.vec 5 (u.blocks.map UBlk.row))] ++ ([(x8, Obj.st [.int .i64 to, ac])] ++ ([(x2, Obj.st [.sl true 3 []]), (x3, Obj.st [cc])] ++ (blk.core ++ (al ++ (Qamd us ci bi hci ++ cl)))))) ++ blk.pl) := fun p hp => by simp [hp]
         have hsok := eq_true (hgr.slcM kn hmem4).ok
         have hrws := (hgr.slcM kn hmem4).rows
         obtain ⟨ph, hph⟩ : ∃ ph : UPhi, ph = ⟨to, ns, ac, al⟩ := ⟨_, rfl⟩
         have hphr : [C.int IntKind.i64 to, ac] = ph.row := by rw [hph]; rfl
         have hphl : ph.al = al := by rw [hph]
         have hphg : Gr ph.al 1 (Qh ph.ns) ph.ac := by rw [hph]; exact hga
         rw [hbc] at hrow hblow hblen
         have hgp := hbok2.p
         have htk : List.take u.blocks.length (u.blocks.map UBlk.row) = u.blocks.map UBlk.row := List.take_of_length_le (by simp)
         refine Qb4 ?_
         simp only [go_sem, hx8, hacow, hcow, hsok, hlen, hsz, hci, hrws, hrow, hyb, hbi, hbl5, htk, hbr, hpcow, List.drop_zero, List.take_length, Nat.zero_add, reduceIte, reduceEqDiff, reduceAdd, reduceLeDiff, reduceLT, reduceCtorEq]
         rw [hphr]
         refine kn.grow (new := [ph.row]) hgp (.mk' _ _ _ _) (by intro r hr; simp only [List.mem_singleton] at hr; subst hr; exact ph.noOw hphg) (by simp only [List.length_map, List.length_cons, List.length_nil, LIM]; omega) fun z H15 kn => ?_
         have kn : Kn H H15 [(R.l, R.o (k2 + 1 + 1 + 1 + q))] ([(yb, .vec 5 (u.blocks.map UBlk.row))] ++ (([(x8, .st [.int .i64 to, ac])] ++ ([(x2, .st [.sl true 3 []]), (x3, .st [cc])] ++ (blk.core ++ (al ++ (Qamd us ci bi hci ++ cl))))) ++ [(z, .vec 2 ((blk.phis ++ [ph]).map UPhi.row))])) := by
          simpa [List.append_assoc] using kn
         have hyb := kn.l 0 rfl
         have hmem5 : ∀ p ∈ cl, p ∈ ([(yb, Obj.vec 5 (u.blocks.map UBlk.row))] ++ (([(x8, Obj.st [.int .i64 to, ac])] ++ ([(x2, Obj.st [.sl true 3 []]), (x3, Obj.st [cc])] ++ (blk.core ++ (al ++ (Qamd us ci bi hci ++ cl))))) ++ [(z, .vec 2 ((blk.phis ++ [ph]).map UPhi.row))])) := fun p hp => by simp [hp]
         have hsok := eq_true (hgr.slcM kn hmem5).ok
         have hrws := (hgr.slcM kn hmem5).rows
         simp only [go_sem, Q3c, hcow, hsok, hlen, hsz, hci, hrws, hrow, hyb, hbi, hbl5, htk, hbr, hpcow, List.drop_zero, Nat.zero_add, reduceIte, reduceEqDiff, reduceAdd, reduceLeDiff, reduceLT, reduceCtorEq]
         intro H16 h16
         obtain ⟨b', hb'⟩ : ∃ b' : UBlk, b' = { blk with phis := blk.phis ++ [ph], pc := .vsl z 2 0 ((blk.phis.map UPhi.row).length + 1), pl := [(z, .vec 2 ((blk.phis ++ [ph]).map UPhi.row))] } := ⟨_, rfl⟩
         have hbr' : [C.vsl z 2 0 ((blk.phis.map UPhi.row).length + 1), blk.ic, C.int IntKind.i64 blk.jump, C.int IntKind.i64 blk.on, C.sl blk.nfl 1 (Qh blk.next)] = b'.row := by rw [hb']; rfl
         have hbset : (u.blocks.map UBlk.row).set bi b'.row = (u.blocks.set bi b').map UBlk.row := by rw [List.map_set]
         rw [hbr', hbset] at h16
         have kn := kn.stL 0 rfl h16
         have hbok' : b'.ok := by
          rw [hb']
          refine ⟨.mk _ _ _ (by simp), hbok2.i, fun p hp => ?_⟩
          rcases List.mem_append.1 hp with h | h
          ·exact hbok2.a p h
          ·simp only [List.mem_singleton] at h; subst h; exact hphg
         have hbsm' : b'.sm (N + 1) := by
          rw [hb']
          refine ⟨hbsm2.n, hbsm2.i, by simp; omega, hbsm2.ia, fun p hp => ?_⟩
          rcases List.mem_append.1 hp with h | h
          ·exact hbsm2.pa p h
          ·simp only [List.mem_singleton] at h; subst h; rw [hph]; show ns.length ≤ 1000; omega
         obtain ⟨u', hu'⟩ : ∃ u', u' = u.put bi b' [(yb, .vec 5 ((u.blocks.set bi b').map UBlk.row))] := ⟨_, rfl⟩
         have huok' : u'.ok := by rw [hu']; exact UCode.put_ok huok hbok' hbl
         have husm' : u'.sm (N + 1) := by rw [hu']; exact UCode.put_sm husm hbsm'
         have hkn : Kn H H16 [(R.l, R.o (k2 + 1 + 1 + 1 + q))] ((([(x2, .st [.sl true 3 []]), (x3, .st [cc])] ++ (us.set ci u').flatMap UCode.lg) ++ cl) ++ [(x8, .st [.int .i64 to, ac])]) := kn.perm (Q8 fun f hf h0 hc1 hp => by
          have h1 := hp _ _ (Qba9 us ci bi hci (by rw [hu]; exact hbi) b' [(yb, .vec 5 ((u.blocks.set bi b').map UBlk.row))])
          rw [hu, ← hu'] at h1
          have h2 : b'.core = blk.core ++ al := by rw [hb', UBlk.core_snoc, hphl]
          have h3 : b'.pl = [(z, .vec 2 ((blk.phis ++ [ph]).map UPhi.row))] := by rw [hb']
          rw [h2, h3] at h1
          simp only [List.cons_append, List.nil_append, List.set_cons_zero, hf, hc1 _ (_ :: _), hc1 _ (_ ++ _)] at h1 ⊢
          omega)
         refine hn _ _ ⟨k2 + 1 + 1 + 1 + q, us.set ci u', by simpa using hui, by omega, by omega, fun v hv => ?_, ?_, hkn.drop, rfl, rfl, rfl, rfl⟩
         ·rcases List.mem_or_eq_of_mem_set hv with hv | rfl
          ·exact ⟨(hok v hv).1, (hok v hv).2.mono (by omega)⟩
          ·exact ⟨huok', husm'⟩
         ·rw [Qbba us ci hci u' (by rw [hu', UCode.put_row, hu])]; exact hgr
        ·intro hc
         refine Qf ?_
         simp only [go_sem]
         refine hn _ _ ⟨k2 + 1 + 1 + 1 + q, us, hui, by omega, by omega, fun u hu => ⟨(hok u hu).1, (hok u hu).2.mono (by omega)⟩, hgr, ?_, rfl, rfl, rfl, rfl⟩
         have kn := kn.drop
         exact (kn.perm List.perm_append_comm).drop
     rintro e2 H8 ⟨k3, us, hui, hk5, hk6, hok, hgr, kn, l0, l2, l3, l5⟩
     refine Qp ?_
     simp only [go_sem, X.next, l0, l2, l3, l5, reduceIte, reduceEqDiff, reduceAdd, reduceLeDiff, reduceLT, reduceCtorEq]
     refine ⟨Qn (by omega) (by omega), t - 1, by omega, t - 1, k3, N + 1, us, rfl, by omega, hui, hk5, by omega, hok, hgr, kn, ?_⟩
     have : (t : Int) - 1 = ((t - 1 : Nat) : Int) := by omega
     rw [this]
    ·intro hc
     refine Qs ?_
     simp only [go_sem, X.next]
     have hx2 := kn.l 0 rfl
     refine Qa ?_
     simp only [go_sem, hx2, hx3, hcow, reduceIte, reduceEqDiff, reduceAdd, reduceLeDiff, reduceLT, reduceCtorEq]
     intro H8 h8
     have kn := kn.stL 0 rfl h8
     have hx2 := kn.l 0 rfl
     refine Qj ?_
     simp only [go_sem, Qz, Q9, Qax8, reduceIte, List.mem_singleton, forall_eq, RS.op, hx2, hcow, reduceIte, reduceEqDiff, reduceAdd, reduceLeDiff, reduceLT, reduceCtorEq]
     have hheld : Held H8 (un H) (us.flatMap UCode.lg ++ cl) := fun p hp => by
      have hp2 : p ∈ (([(x2, Obj.st [cc]), (x3, Obj.st [cc])] ++ us.flatMap UCode.lg) ++ cl) := by
       rcases List.mem_append.1 hp with h | h
       ·simp [h]
       ·simp [h]
      exact ⟨(kn.get p (List.mem_append_right _ hp2)).1, Qlo (kn.loc p hp2)⟩
     obtain ⟨cs, hf, hcn, hcs⟩ := UCodes.frz (N := N) (by omega) hgr hok hheld
     exact ⟨_, FrzL.ag (.cons hf .nil), hK cs _ k2 hk3 (by omega) kn.fin (by omega) (by omega) hcs⟩
end Go.AE.Y

namespace Go.AE.Y
open Go.Proofs.Tryz
variable {H : Heap} {K : V → Heap → Prop}
end Go.AE.Y
namespace Go.AE
open Go.AE.Y
open Go.Proofs.Tryz
variable {H : Heap} {K : V → Heap → Prop}
theorem Kn.lm {H0 H : Heap} {E L : List (Nat × Obj)} {x : Nat} {o : Obj} (kn : Kn H0 H E L) (h : (x, o) ∈ L) : H x = o := (kn.get (x, o) (List.mem_append_right _ h)).1
end Go.AE
namespace Go.AE.Y
open Go.Proofs.Tryz
variable {H : Heap} {K : V → Heap → Prop}
set_option maxHeartbeats 4000000 in
theorem Qa6s {R : Rdr} {k : Nat} (hH : H R.l = R.o k) (hk : k + 20000 ≤ 2^40)
  (hK : ∀ (cs : List CodeD) (H' : Heap) (k' : Nat), k < k' → k' ≤ k + 20000 → Upd H H' [(R.l, R.o k')] → 0 < cs.length → cs.length ≤ 3 → (∀ c ∈ cs, c.gd) → K (.ag [.sl false 3 (Qm cs)]) H') :
  Qo prog Q6o [.c (.ptr R.l 0)] H K := by
 refine Q0 ?_
 refine Qb Qas Qa7a ?_
 refine Qa ?_
 simp only [go_sem, reduceIte, reduceEqDiff, reduceAdd, reduceLeDiff, reduceLT, reduceCtorEq]
 intro x2 hx2 H1 h1
 have kn := (Kn.start1 hH (R.o_ne k)).al hx2 h1
 refine Qa ?_
 simp only [go_sem, reduceIte, reduceEqDiff, reduceAdd, reduceLeDiff, reduceLT, reduceCtorEq]
 refine Qaxw (kn.e 0 rfl) (by omega) fun cs H2 k1 hk1 hk2 hu hcs0 hcs3 hsm => ?_
 have kn := kn.callE 0 rfl hu (R.o_ne _)
 simp only [go_sem, Qaaf, reduceIte, reduceEqDiff, reduceAdd, reduceLeDiff, reduceLT, reduceCtorEq]
 refine Qamu hsm (by omega) fun us cc cl H3 k2 hgr hok hul => ?_
 have kn := kn.comp0 k2
 have hcow := hgr.isOw
 simp only [go_sem, Qaae, hcow, reduceIte, reduceEqDiff, reduceAdd, reduceLeDiff, reduceLT, reduceCtorEq]
 intro x3 hx3 H4 h4
 have kn := kn.al hx3 h4
 have kn := kn.perm List.perm_append_comm
 have hx3 := kn.l 0 rfl
 simp only [go_sem, Qaad, hx3, hcow, reduceIte, reduceEqDiff, reduceAdd, reduceLeDiff, reduceLT, reduceCtorEq]
 intro H5 h5
 have kn := kn.stL 0 rfl h5
 have kn : Kn H H5 [(R.l, R.o k1)] (([(x2, .st [.sl true 3 []]), (x3, .st [cc])] ++ us.flatMap OCode.lg) ++ cl) := kn.perm (Q8 fun f hf h0 hc1 hp => by
  simp only [List.cons_append, List.nil_append, List.set_cons_zero, hf, hc1 _ (_ :: _), hc1 _ (_ ++ _), hc1 _ (List.flatMap _ _)]
  omega)
 have hx3 := kn.l 1 rfl
 have hs := hgr.slc kn
 have hsok := eq_true hs.ok
 have hlen := hs.len
 have hsz := hs.sz
 rw [List.length_map] at hlen
 refine Qar ?_
 simp only [go_sem, hx3, hcow, hsok, hlen, reduceIte, reduceEqDiff, reduceAdd, reduceLeDiff, reduceLT, reduceCtorEq]
 refine Qa5 (kn.e 0 rfl) (by omega) fun v H6 hv hu => ?_
 have kn := kn.callE 0 rfl hu (R.o_ne _)
 rw [if_neg (by omega)] at hv
 obtain ⟨ci, rfl⟩ := Int.eq_ofNat_of_zero_le hv.1
 have hci : ci < us.length := by omega
 have hx3 := kn.l 1 rfl
 have hs := hgr.slc kn
 have hsok := eq_true hs.ok
 have hrws := hs.rows
 simp only [go_sem, Qaag, hx3, hcow, hsok, hlen, hsz, hci, reduceIte, reduceEqDiff, reduceAdd, reduceLeDiff, reduceLT, reduceCtorEq]
 obtain ⟨u, hu⟩ : ∃ u, us[ci] = u := ⟨_, rfl⟩
 obtain ⟨huok, husm⟩ := hok _ (List.getElem_mem hci)
 rw [hu] at huok husm
 have hrow : (us.map OCode.row).getD ci [] = [.int .i64 u.params, .int .i64 u.regs, u.bc] := by rw [← hu]; simp [List.getD_eq_getElem?_getD, hci, OCode.row]
 have hub0 := husm.b0
 have hub1 := husm.b
 obtain ⟨yb, hbc, hbl⟩ := OCode.bvec huok hub0
 have hblow : (C.vsl yb 5 0 u.blocks.length).isOw = false := rfl
 have hblen : lenC (C.vsl yb 5 0 u.blocks.length) = u.blocks.length := rfl
 rw [hbc] at hrow
 have hybm : (yb, Obj.vec 5 (u.blocks.map OBlk.row)) ∈ (([(x2, Obj.st [.sl true 3 []]), (x3, .st [cc])] ++ us.flatMap OCode.lg) ++ cl) := by
  have : (yb, Obj.vec 5 (u.blocks.map OBlk.row)) ∈ us.flatMap OCode.lg := List.mem_flatMap.2 ⟨u, by rw [← hu]; exact List.getElem_mem hci, List.mem_append_right _ (by rw [hbl]; simp)⟩
  simp [this]
 have hyb := kn.lm hybm
 have hbl5 : (u.blocks.map OBlk.row).length = u.blocks.length := by simp
 have htk : List.take u.blocks.length (u.blocks.map OBlk.row) = u.blocks.map OBlk.row := List.take_of_length_le (by simp)
 refine Qar ?_
 simp only [go_sem, hcow, hsok, hlen, hsz, hci, hrws, hrow, hyb, hbl5, Nat.zero_add, Nat.le_refl, reduceIte, reduceEqDiff, reduceAdd, reduceLeDiff, reduceLT, reduceCtorEq]
 refine Qa5 (kn.e 0 rfl) (by omega) fun v H7 hv hu7 => ?_
 have kn := kn.callE 0 rfl hu7 (R.o_ne _)
 rw [if_neg (by omega)] at hv
 obtain ⟨bi, rfl⟩ := Int.eq_ofNat_of_zero_le hv.1
 have hbi : bi < u.blocks.length := by omega
 have hs := hgr.slc kn
 have hsok := eq_true hs.ok
 have hrws := hs.rows
 have hyb := kn.lm hybm
 simp only [go_sem, Qaah, hcow, hsok, hlen, hsz, hci, hrws, hrow, hyb, hbl5, hbi, Nat.zero_add, Nat.le_refl, reduceIte, reduceEqDiff, reduceAdd, reduceLeDiff, reduceLT, reduceCtorEq]
 refine Qar ?_
 simp only [go_sem, hcow, hsok, hlen, hsz, hci, hrws, hrow, hyb, hbl5, hbi, Nat.zero_add, Nat.le_refl, reduceIte, reduceEqDiff, reduceAdd, reduceLeDiff, reduceLT, reduceCtorEq]
 refine Qig (ns := [-1, u.regs, u.blocks.length, 0, 1]) (kn.e 0 rfl) (by omega) (by simp) fun bad H8 _ hu8 => ?_
 have kn := kn.callE 0 rfl hu8 (R.o_ne _)
 simp only [go_sem, Qaai, reduceIte, reduceEqDiff, reduceAdd, reduceLeDiff, reduceLT, reduceCtorEq]
 refine Q2 ?_
 refine Qa ?_
 simp only [go_sem, reduceIte, reduceEqDiff, reduceAdd, reduceLeDiff, reduceLT, reduceCtorEq]
 refine Qa5 (kn.e 0 rfl) (by omega) fun kind H9 _ hu9 => ?_
 have kn := kn.callE 0 rfl hu9 (R.o_ne _)
 refine Qc9 (fun e2 H2 => ∃ (k3 : Nat) (us : List OCode) (cl : List (Nat × Obj)), us.length = cs.length ∧ k < k3 ∧ k3 ≤ k + 20000 ∧ (∀ u ∈ us, u.ok ∧ u.sm 1001) ∧ Gr cl 3 (us.map OCode.row) cc ∧
   Kn H H2 [(R.l, R.o k3)] (([(x2, .st [.sl true 3 []]), (x3, .st [cc])] ++ us.flatMap OCode.lg) ++ cl) ∧ lk 2 e2 = .c (.ptr x2 0) ∧ lk 3 e2 = .c (.ptr x3 0)) ?_ ?_
 ·intro Q hn _ _
  have hull : us.length = cs.length := hul
  have knO := kn
  obtain ⟨blk, hblk⟩ : ∃ blk, u.blocks[bi] = blk := ⟨_, rfl⟩
  have hbok := huok.bs _ (List.getElem_mem hbi)
  have hbsm := husm.bs _ (List.getElem_mem hbi)
  rw [hblk] at hbok hbsm
  have hbr : (u.blocks.map OBlk.row).getD bi [] = [blk.pc, blk.ic, .int .i64 blk.jump, .int .i64 blk.on, .vsl blk.nx.y 1 0 blk.nx.ns.length] := by rw [← hblk]; simp [List.getD_eq_getElem?_getD, hbi, OBlk.row, OInts.c]
  have hpcow := hbok.p.isOw
  have hicow := hbok.i.isOw
  have kn := Qayp kn hci hu hbi hblk hbl
  have hset : ∀ b' : OBlk, (u.blocks.map OBlk.row).set bi b'.row = (u.blocks.set bi b').map OBlk.row := fun b' => (List.map_set).symm
  have hdone : ∀ (b' : OBlk) (H2 : Heap) (k3 : Nat) (e2 : Env), b'.ok → b'.sm 1001 → k < k3 → k3 ≤ k + 20000 → Kn H H2 [(R.l, R.o k3)] ([(yb, .vec 5 ((u.blocks.set bi b').map OBlk.row))] ++ (b'.lg ++ (Qadk us ci bi hci ++ ([(x2, Obj.st [.sl true 3 []]), (x3, .st [cc])] ++ cl)))) →
    lk 2 e2 = .c (.ptr x2 0) → lk 3 e2 = .c (.ptr x3 0) → Q .nrm e2 H2 := by
   intro b' H2 k3 e2 h1 h2 h3 h4 kn l2 l3
   obtain ⟨us', g1, g2, g3, g4⟩ := Qa10 (N := 1000) hci hu hbi hbl hok h1 h2 hgr kn
   exact hn _ _ ⟨k3, us', cl, by omega, h3, h4, g3, g2, g4, l2, l3⟩
  have hsame : ∀ e2 : Env, lk 2 e2 = .c (.ptr x2 0) → lk 3 e2 = .c (.ptr x3 0) → Q .nrm e2 H9 := fun e2 l2 l3 =>
   hn _ _ ⟨_, us, cl, hul, by omega, by omega, fun u hu => ⟨(hok u hu).1, (hok u hu).2.mono (by omega)⟩, hgr, knO, l2, l3⟩
  refine Qc ?_
  refine Qa ?_
  simp only [go_sem, reduceIte, reduceEqDiff, reduceAdd, reduceLeDiff, reduceLT, reduceCtorEq]
  have hsok := eq_true (hgr.slcM kn (fun p hp => by simp [hp])).ok
  have hrws := (hgr.slcM kn (fun p hp => by simp [hp])).rows
  have hyb := kn.l 0 rfl
  refine Qd rfl ?_ ?_
  ·intro hc
   refine Qp ?_
   simp only [go_sem, reduceIte, reduceEqDiff, reduceAdd, reduceLeDiff, reduceLT, reduceCtorEq]
   refine Qa5 (kn.e 0 rfl) (by omega) fun v H10 _ hu10 => ?_
   have kn := kn.callE 0 rfl hu10 (R.o_ne _)
   have hyb := kn.l 0 rfl
   simp only [go_sem, Qaaj, hyb, hbl5, htk, hbi, hbr, hpcow, hicow, Qbq, List.drop_zero, Nat.zero_add, Nat.le_refl, reduceIte, reduceEqDiff, reduceAdd, reduceLeDiff, reduceLT, reduceCtorEq]
   intro H11 h11
   have hb' : [blk.pc, blk.ic, C.int IntKind.i64 v, C.int IntKind.i64 blk.on, C.vsl blk.nx.y 1 0 blk.nx.ns.length] = ({ blk with jump := v } : OBlk).row := rfl
   rw [hb', hset] at h11
   exact hdone { blk with jump := v } _ _ _ ⟨hbok.p, hbok.i, hbok.a⟩ ⟨hbsm.n, hbsm.i, by have := hbsm.p; show blk.phis.length ≤ _; omega, fun x hx => by have := hbsm.ia x hx; omega⟩ (by omega) (by omega) (kn.stL 0 rfl h11) (by simp [lk]) (by simp [lk])
  intro hc0
  refine Qa ?_
  simp only [go_sem, reduceIte, reduceEqDiff, reduceAdd, reduceLeDiff, reduceLT, reduceCtorEq]
  refine Qd rfl ?_ ?_
  ·intro hc
   have hny : H9 blk.nx.y = .vec 1 (Qh blk.nx.ns) := kn.l 1 rfl
   have htk2 : List.take blk.nx.ns.length (Qh blk.nx.ns) = Qh blk.nx.ns := List.take_of_length_le (by simp [Qe])
   refine Qa ?_
   simp only [go_sem, hyb, hbl5, htk, hbi, hbr, hpcow, hicow, Qbq, List.drop_zero, Nat.zero_add, Nat.le_refl, hny, Qe, reduceIte, reduceEqDiff, reduceAdd, reduceLeDiff, reduceLT, reduceCtorEq]
   intro _
   refine Qd rfl ?_ ?_
   ·intro hc2
    have hn0 : 0 < blk.nx.ns.length := by simpa using hc2
    have hg1 := Qx blk.nx.ns 0 hn0
    refine Qp ?_
    simp only [go_sem, hyb, hbl5, htk, hbi, hbr, hpcow, hicow, Qbq, List.drop_zero, Nat.zero_add, Nat.le_refl, hny, hn0, hg1, htk2, Qe, reduceIte, reduceEqDiff, reduceAdd, reduceLeDiff, reduceLT, reduceCtorEq]
    refine ⟨by omega, fun H11 h11 => ?_⟩
    have hs1 : (Qh blk.nx.ns).set 0 [C.int IntKind.i64 bad] = Qh (blk.nx.ns.set 0 bad) := by simp [Qh, List.map_set]
    rw [hs1] at h11
    have kn : Kn H H11 [(R.l, R.o (k1 + 1 + 1 + 1 + 1))] ([(yb, .vec 5 (u.blocks.map OBlk.row))] ++ (OBlk.lg { blk with nx := ⟨blk.nx.ns.set 0 bad, blk.nx.y⟩ } ++ (Qadk us ci bi hci ++ ([(x2, Obj.st [.sl true 3 []]), (x3, .st [cc])] ++ cl)))) := kn.stL 1 rfl h11
    refine hdone { blk with nx := ⟨blk.nx.ns.set 0 bad, blk.nx.y⟩ } _ (k1 + 1 + 1 + 1 + 1) _ ⟨hbok.p, hbok.i, hbok.a⟩ ⟨by simpa using hbsm.n, hbsm.i, by have := hbsm.p; show blk.phis.length ≤ _; omega, fun x hx => by have := hbsm.ia x hx; omega⟩ (by omega) (by omega) ?_ (by simp [lk]) (by simp [lk])
    rw [Q5t hbi (by rw [hblk]; simp [OBlk.row, OInts.c])]
    exact kn
   ·intro hc2
    refine Qf ?_
    exact hsame _ (by simp [lk]) (by simp [lk])
  intro hc1
  refine Qa ?_
  simp only [go_sem, reduceIte, reduceEqDiff, reduceAdd, reduceLeDiff, reduceLT, reduceCtorEq]
  refine Qd rfl ?_ ?_
  ·intro hc
   refine Qp ?_
   simp only [go_sem, hyb, hbl5, htk, hbi, hbr, hpcow, hicow, Qbq, List.drop_zero, Nat.zero_add, Nat.le_refl, reduceIte, reduceEqDiff, reduceAdd, reduceLeDiff, reduceLT, reduceCtorEq]
   intro H11 h11
   have hb' : [blk.pc, blk.ic, C.int IntKind.i64 blk.jump, C.int IntKind.i64 bad, C.vsl blk.nx.y 1 0 blk.nx.ns.length] = ({ blk with on := bad } : OBlk).row := rfl
   rw [hb', hset] at h11
   exact hdone { blk with on := bad } _ _ _ ⟨hbok.p, hbok.i, hbok.a⟩ ⟨hbsm.n, hbsm.i, by have := hbsm.p; show blk.phis.length ≤ _; omega, fun x hx => by have := hbsm.ia x hx; omega⟩ (by omega) (by omega) (kn.stL 0 rfl h11) (by simp [lk]) (by simp [lk])
  intro hc2
  refine Qa ?_
  simp only [go_sem, reduceIte, reduceEqDiff, reduceAdd, reduceLeDiff, reduceLT, reduceCtorEq]
  have hilen : lenC blk.ic = blk.ins.length := by rw [hbok.i.lenC]; simp
  have hiok : okSl H9 blk.ic = True := eq_true (hbok.i.slcM kn (fun p hp => by simp [OBlk.lg, hp])).ok
  refine Qd rfl ?_ ?_
  ·intro hc
   refine Qa ?_
   simp only [go_sem, hyb, hbl5, htk, hbi, hbr, hpcow, hicow, Qbq, List.drop_zero, Nat.zero_add, Nat.le_refl, hilen, hiok, reduceIte, reduceEqDiff, reduceAdd, reduceLeDiff, reduceLT, reduceCtorEq]
   intro _
   refine Qd rfl ?_ ?_
   ·intro hc2
    have hn0 : 0 < blk.ins.length := by simpa using hc2
    obtain ⟨yi, hic, hil⟩ := OBlk.ivec hbok hn0
    rw [hic] at hbr
    have knI := Qai4 kn hil
    have hyi := knI.l 0 rfl
    obtain ⟨x, hx⟩ : ∃ x, blk.ins[0] = x := ⟨_, rfl⟩
    have hxr : (blk.ins.map OIns.row).getD 0 [] = [.int .i64 x.op, .int .i64 x.to, .vsl x.a.y 1 0 x.a.ns.length, .int .i64 x.n] := by rw [← hx]; simp [List.getD_eq_getElem?_getD, hn0, OIns.row, OInts.c]
    have hil4 : (blk.ins.map OIns.row).length = blk.ins.length := by simp
    have htk4 : List.take blk.ins.length (blk.ins.map OIns.row) = blk.ins.map OIns.row := List.take_of_length_le (by simp)
    have hxa : x.a.ns.length ≤ 1000 := hbsm.ia x (by rw [← hx]; exact List.getElem_mem hn0)
    refine Qp ?_
    simp only [go_sem, hyb, hbl5, htk, hbi, hbr, hpcow, hicow, Qbq, List.drop_zero, Nat.zero_add, Nat.le_refl, hyi, hn0, hxr, hil4, htk4, reduceIte, reduceEqDiff, reduceAdd, reduceLeDiff, reduceLT, reduceCtorEq]
    refine ⟨by omega, fun H12 h12 => ?_⟩
    have hr' : [C.int IntKind.i64 x.op, C.int IntKind.i64 bad, C.vsl x.a.y 1 0 x.a.ns.length, C.int IntKind.i64 x.n] = ({ x with to := bad } : OIns).row := rfl
    rw [hr', ← List.map_set] at h12
    have knD := Qa2f (b := blk) (is := blk.ins.set 0 { x with to := bad }) (knI.stL 0 rfl h12) (Q06 hn0 (by rw [hx]; rfl))
    refine hdone _ _ (k1 + 1 + 1 + 1 + 1) _ (OBlk.ins_ok (i := 0) (x' := { x with to := bad }) hbok hic) (OBlk.ins_sm (i := 0) (x' := { x with to := bad }) hbsm (by show x.a.ns.length ≤ _; omega)) (by omega) (by omega) ?_ (by simp [lk]) (by simp [lk])
    rw [Q5t hbi (by rw [hblk]; rfl)]
    exact knD
   ·intro hc2
    refine Qf ?_
    exact hsame _ (by simp [lk]) (by simp [lk])
  intro hc3
  refine Qa ?_
  simp only [go_sem, reduceIte, reduceEqDiff, reduceAdd, reduceLeDiff, reduceLT, reduceCtorEq]
  refine Qd rfl ?_ ?_
  ·intro hc
   refine Qa ?_
   simp only [go_sem, hyb, hbl5, htk, hbi, hbr, hpcow, hicow, Qbq, List.drop_zero, Nat.zero_add, Nat.le_refl, hilen, hiok, reduceIte, reduceEqDiff, reduceAdd, reduceLeDiff, reduceLT, reduceCtorEq]
   intro _
   refine Qd rfl ?_ ?_
   ·intro hc2
    have hn0 : 0 < blk.ins.length := by simpa using hc2
    obtain ⟨yi, hic, hil⟩ := OBlk.ivec hbok hn0
    rw [hic] at hbr
    have knI := Qai4 kn hil
    have hyi := knI.l 0 rfl
    obtain ⟨x, hx⟩ : ∃ x, blk.ins[0] = x := ⟨_, rfl⟩
    have hxr : (blk.ins.map OIns.row).getD 0 [] = [.int .i64 x.op, .int .i64 x.to, .vsl x.a.y 1 0 x.a.ns.length, .int .i64 x.n] := by rw [← hx]; simp [List.getD_eq_getElem?_getD, hn0, OIns.row, OInts.c]
    have hil4 : (blk.ins.map OIns.row).length = blk.ins.length := by simp
    have htk4 : List.take blk.ins.length (blk.ins.map OIns.row) = blk.ins.map OIns.row := List.take_of_length_le (by simp)
    have hxa : x.a.ns.length ≤ 1000 := hbsm.ia x (by rw [← hx]; exact List.getElem_mem hn0)
    refine Qb4 ?_
    have knA : Kn H H9 [(R.l, R.o (k1 + 1 + 1 + 1 + 1))] ([(x.a.y, .vec 1 (Qh x.a.ns))] ++ ([(yi, .vec 4 (blk.ins.map OIns.row))] ++ ([(yb, .vec 5 (u.blocks.map OBlk.row))] ++ (blk.nx.lg ++ (blk.phis.flatMap OPhi.lg ++ (blk.pl ++ ((blk.ins.eraseIdx 0).flatMap OIns.lg ++ (Qadk us ci bi hci ++ ([(x2, Obj.st [.sl true 3 []]), (x3, .st [cc])] ++ cl))))))))) := knI.perm (Q8 fun f hf h0 hc1 hp => by
     have h1 := hp _ _ (Qfn OIns.lg blk.ins 0 hn0)
     rw [hx] at h1
     have h2 : x.lg = [(x.a.y, .vec 1 (Qh x.a.ns))] := rfl
     rw [h2] at h1
     simp only [hf] at h1 ⊢
     omega)
    have hxy := knA.l 0 rfl
    have htk1 : List.take x.a.ns.length (Qh x.a.ns) = Qh x.a.ns := List.take_of_length_le (by simp [Qe])
    simp only [go_sem, hyb, hbl5, htk, hbi, hbr, hpcow, hicow, Qbq, List.drop_zero, Nat.zero_add, Nat.le_refl, hyi, hn0, hxr, hil4, htk4, hxy, Qe, htk1, reduceIte, reduceEqDiff, reduceAdd, reduceLeDiff, reduceLT, reduceCtorEq]
    refine ⟨by omega, by simp only [LIM]; omega, fun y' hy' H10 h10 => ?_⟩
    have knA := knA.ap 0 rfl hy' h10
    have hyi := knA.l 1 rfl
    have hyb := knA.l 2 rfl
    simp only [go_sem, Qaak, hyb, hbl5, htk, hbi, hbr, hpcow, hicow, Qbq, List.drop_zero, Nat.zero_add, Nat.le_refl, hyi, hn0, hxr, hil4, htk4, reduceIte, reduceEqDiff, reduceAdd, reduceLeDiff, reduceLT, reduceCtorEq]
    refine ⟨by omega, fun H12 h12 => ?_⟩
    obtain ⟨x', hx'⟩ : ∃ x' : OIns, x' = { x with a := ⟨x.a.ns ++ [bad], y'⟩ } := ⟨_, rfl⟩
    have hr' : [C.int IntKind.i64 x.op, C.int IntKind.i64 x.to, C.vsl y' 1 0 (x.a.ns.length + 1), C.int IntKind.i64 x.n] = x'.row := by rw [hx']; simp [OIns.row, OInts.c]
    have hl' : x'.lg = [(y', .vec 1 (Qh x.a.ns ++ [[.int .i64 bad]]))] := by rw [hx']; simp [OIns.lg, OInts.lg, Qh]
    rw [hr', ← List.map_set] at h12
    have knA := knA.stL 1 rfl h12
    refine hdone _ _ (k1 + 1 + 1 + 1 + 1) _ (OBlk.ins_ok (i := 0) (x' := x') hbok hic) (OBlk.ins_sm (i := 0) (x' := x') hbsm (by rw [hx']; simp; omega)) (by omega) (by omega) ?_ (by simp [lk]) (by simp [lk])
    rw [Q5t hbi (by rw [hblk]; rfl)]
    refine knA.perm (Q8 fun f hf h0 hc1 hp => ?_)
    have h1 := hp _ _ (Qec OIns.lg blk.ins 0 x' hn0)
    rw [hl'] at h1
    simp only [OBlk.lg, List.cons_append, List.nil_append, List.set_cons_zero, List.set_cons_succ, hf, hc1 _ (_ :: _), hc1 _ (_ ++ _), hc1 _ (List.flatMap _ _)] at h1 ⊢
    omega
   ·intro hc2
    refine Qf ?_
    exact hsame _ (by simp [lk]) (by simp [lk])
  intro hc4
  refine Qa ?_
  simp only [go_sem, reduceIte, reduceEqDiff, reduceAdd, reduceLeDiff, reduceLT, reduceCtorEq]
  refine Qd rfl ?_ ?_
  ·intro hc
   refine Qp ?_
   simp only [go_sem, hyb, hbl5, htk, hbi, hbr, hpcow, hicow, Qbq, List.drop_zero, Nat.zero_add, Nat.le_refl, reduceIte, reduceEqDiff, reduceAdd, reduceLeDiff, reduceLT, reduceCtorEq]
   have knP : Kn H H9 [(R.l, R.o (k1 + 1 + 1 + 1 + 1))] (([(yb, .vec 5 (u.blocks.map OBlk.row))] ++ (blk.nx.lg ++ (blk.phis.flatMap OPhi.lg ++ (blk.ins.flatMap OIns.lg ++ (blk.il ++ (Qadk us ci bi hci ++ ([(x2, Obj.st [.sl true 3 []]), (x3, .st [cc])] ++ cl))))))) ++ blk.pl) := kn.perm (Q8 fun f hf h0 hc1 hp => by
    simp only [OBlk.lg, hf]
    omega)
   obtain ⟨ph, hph⟩ : ∃ ph : OPhi, ph = ⟨0, [bad], .sl true 1 (Qh [bad]), []⟩ := ⟨_, rfl⟩
   have hphr : [C.int IntKind.i64 0, C.sl true 1 [[C.int IntKind.i64 bad]]] = ph.row := by rw [hph]; rfl
   have hphok : ph.ok := by rw [hph]; exact .inr ⟨true, rfl, rfl⟩
   have hphl : ph.lg = [] := by rw [hph]
   have hpl := hbsm.p
   rw [hphr]
   refine knP.grow (new := [ph.row]) hbok.p (.mk' _ _ _ _) (by intro r hr; simp only [List.mem_singleton] at hr; subst hr; exact ph.noOw hphok) (by simp only [List.length_map, List.length_cons, List.length_nil, LIM]; omega) fun z H10 knP => ?_
   have hyb := knP.l 0 rfl
   simp only [go_sem, Q2k, hyb, hbl5, htk, hbi, hbr, hpcow, hicow, Qbq, List.drop_zero, Nat.zero_add, Nat.le_refl, reduceIte, reduceEqDiff, reduceAdd, reduceLeDiff, reduceLT, reduceCtorEq]
   intro H11 h11
   obtain ⟨b', hb'⟩ : ∃ b' : OBlk, b' = { blk with phis := blk.phis ++ [ph], pc := .vsl z 2 0 ((blk.phis.map OPhi.row).length + 1), pl := [(z, .vec 2 ((blk.phis ++ [ph]).map OPhi.row))] } := ⟨_, rfl⟩
   have hbr' : [C.vsl z 2 0 ((blk.phis.map OPhi.row).length + 1), blk.ic, C.int IntKind.i64 blk.jump, C.int IntKind.i64 blk.on, C.vsl blk.nx.y 1 0 blk.nx.ns.length] = b'.row := by rw [hb']; rfl
   rw [hbr', hset] at h11
   have knP := knP.stL 0 rfl h11
   have hbok' : b'.ok := by
    rw [hb']
    refine ⟨.mk _ _ _ (by simp), hbok.i, fun p hp => ?_⟩
    rcases List.mem_append.1 hp with h | h
    ·exact hbok.a p h
    ·simp only [List.mem_singleton] at h; subst h; exact hphok
   have hbsm' : b'.sm 1001 := by
    rw [hb']
    exact ⟨hbsm.n, hbsm.i, by simp; omega, fun x hx => by have := hbsm.ia x hx; omega⟩
   refine hdone b' _ (k1 + 1 + 1 + 1 + 1) _ hbok' hbsm' (by omega) (by omega) ?_ (by simp [lk]) (by simp [lk])
   have hbl' : b'.lg = blk.nx.lg ++ (blk.phis.flatMap OPhi.lg ++ ([(z, .vec 2 ((blk.phis ++ [ph]).map OPhi.row))] ++ (blk.ins.flatMap OIns.lg ++ blk.il))) := by
    rw [hb']; simp [OBlk.lg, List.flatMap_append, hphl]
   rw [hbl']
   have hmm : blk.phis.map OPhi.row ++ [ph.row] = (blk.phis ++ [ph]).map OPhi.row := by simp
   rw [hmm] at knP
   refine knP.perm (Q8 fun f hf h0 hc1 hp => ?_)
   simp only [List.cons_append, List.nil_append, List.set_cons_zero, List.set_cons_succ, hf, hc1 _ (_ :: _), hc1 _ (_ ++ _), hc1 _ (List.flatMap _ _)]
   omega
  intro hc5
  refine Qa ?_
  simp only [go_sem, reduceIte, reduceEqDiff, reduceAdd, reduceLeDiff, reduceLT, reduceCtorEq]
  refine Qd rfl ?_ ?_
  ·intro hc
   refine Qb4 ?_
   simp only [go_sem, hcow, hsok, hlen, hsz, hci, hrws, hrow, reduceIte, reduceEqDiff, reduceAdd, reduceLeDiff, reduceLT, reduceCtorEq]
   refine Qa5 (kn.e 0 rfl) (by omega) fun v H10 hv hu10 => ?_
   have knO := knO.callE 0 rfl hu10 (R.o_ne _)
   obtain ⟨yc, hcc, hcl⟩ : ∃ yc, cc = .vsl yc 3 0 us.length ∧ cl = [(yc, .vec 3 (us.map OCode.row))] := by
    rcases hgr with ⟨h1, h2, h3⟩ | ⟨y, h1, h2⟩
    ·rw [List.map_eq_nil_iff] at h2; rw [h2] at hci; simp at hci
    ·exact ⟨y, by rw [h1]; simp, h2⟩
   have hyc : H10 yc = .vec 3 (us.map OCode.row) := knO.lm (by rw [hcl]; simp)
   have hul3 : (us.map OCode.row).length = us.length := by simp
   have htk3 : List.take us.length (us.map OCode.row) = us.map OCode.row := List.take_of_length_le (by simp)
   have hbcow := huok.b.isOw
   simp only [go_sem, Q2l, hcc, hyc, hul3, htk3, hci, hrow, Qbq, List.drop_zero, Nat.zero_add, Nat.le_refl, reduceIte, reduceEqDiff, reduceAdd, reduceLeDiff, reduceLT, reduceCtorEq]
   have hp0 := husm.p0
   have hp1 := husm.p1
   rw [if_neg (by omega)] at hv
   refine ⟨Qn (by omega) (by omega), fun H11 h11 => ?_⟩
   obtain ⟨u', hu'⟩ : ∃ u' : OCode, u' = { u with regs := u.params + v } := ⟨_, rfl⟩
   have hur : [C.int IntKind.i64 u.params, C.int IntKind.i64 (u.params + v), C.vsl yb 5 0 u.blocks.length] = u'.row := by rw [hu', ← hbc]; rfl
   have hul' : u'.lg = u.lg := by rw [hu']; rfl
   have huok' : u'.ok := by rw [hu']; exact ⟨huok.b, huok.bs⟩
   have husm' : u'.sm 1000 := by rw [hu']; exact ⟨husm.b0, husm.b, husm.bs, husm.p0, husm.p1⟩
   rw [hur, ← List.map_set] at h11
   have knF : Kn H H10 [(R.l, R.o (k1 + 1 + 1 + 1 + 1 + 1))] ([(yc, .vec 3 (us.map OCode.row))] ++ ([(x2, Obj.st [.sl true 3 []]), (x3, .st [cc])] ++ us.flatMap OCode.lg)) := by
    rw [hcl] at knO
    exact knO.perm List.perm_append_comm
   have knF := knF.stL 0 rfl h11
   refine hn _ _ ⟨k1 + 1 + 1 + 1 + 1 + 1, us.set ci u', [(yc, .vec 3 ((us.set ci u').map OCode.row))], by simpa using hul, by omega, by omega, fun w hw => ?_, ?_, ?_, by simp [lk], by simp [lk]⟩
   ·rcases List.mem_or_eq_of_mem_set hw with hw | rfl
    ·exact ⟨(hok w hw).1, (hok w hw).2.mono (by omega)⟩
    ·exact ⟨huok', husm'.mono (by omega)⟩
   ·rw [hcc]; exact .mk _ _ _ (by simp)
   ·refine knF.perm (Q8 fun f hf h0 hc1 hp => ?_)
    have h1 := hp _ _ (Qec OCode.lg us ci u' hci)
    have h2 := hp _ _ (Qfn OCode.lg us ci hci)
    rw [hul'] at h1
    rw [hu] at h2
    simp only [List.cons_append, List.nil_append, List.set_cons_zero, hf, hc1 _ (_ :: _), hc1 _ (_ ++ _), hc1 _ (List.flatMap _ _)] at h1 h2 ⊢
    omega
  intro hc6
  refine Qa ?_
  simp only [go_sem, reduceIte, reduceEqDiff, reduceAdd, reduceLeDiff, reduceLT, reduceCtorEq]
  refine Qd rfl ?_ ?_
  ·intro hc
   refine Qa ?_
   simp only [go_sem, hyb, hbl5, htk, hbi, hbr, hpcow, hicow, Qbq, List.drop_zero, Nat.zero_add, Nat.le_refl, hilen, hiok, reduceIte, reduceEqDiff, reduceAdd, reduceLeDiff, reduceLT, reduceCtorEq]
   intro _
   refine Qd rfl ?_ ?_
   ·intro hc2
    have hn0 : 0 < blk.ins.length := by simpa using hc2
    obtain ⟨yi, hic, hil⟩ := OBlk.ivec hbok hn0
    rw [hic] at hbr
    have knI := Qai4 kn hil
    have hyi := knI.l 0 rfl
    obtain ⟨x, hx⟩ : ∃ x, blk.ins[0] = x := ⟨_, rfl⟩
    have hxr : (blk.ins.map OIns.row).getD 0 [] = [.int .i64 x.op, .int .i64 x.to, .vsl x.a.y 1 0 x.a.ns.length, .int .i64 x.n] := by rw [← hx]; simp [List.getD_eq_getElem?_getD, hn0, OIns.row, OInts.c]
    have hil4 : (blk.ins.map OIns.row).length = blk.ins.length := by simp
    have htk4 : List.take blk.ins.length (blk.ins.map OIns.row) = blk.ins.map OIns.row := List.take_of_length_le (by simp)
    have hxa : x.a.ns.length ≤ 1000 := hbsm.ia x (by rw [← hx]; exact List.getElem_mem hn0)
    refine Qb4 ?_
    simp only [go_sem, hyb, hbl5, htk, hbi, hbr, hpcow, hicow, Qbq, List.drop_zero, Nat.zero_add, Nat.le_refl, hyi, hn0, hxr, hil4, htk4, reduceIte, reduceEqDiff, reduceAdd, reduceLeDiff, reduceLT, reduceCtorEq]
    refine Qig (ns := [256, -1, 1]) (knI.e 0 rfl) (by omega) (by simp) fun v H10 hv hu10 => ?_
    have knI := knI.callE 0 rfl hu10 (R.o_ne _)
    have hyi := knI.l 0 rfl
    have hyb := knI.l 1 rfl
    simp only [go_sem, Q2m, hyb, hbl5, htk, hbi, hbr, hpcow, hicow, Qbq, List.drop_zero, Nat.zero_add, Nat.le_refl, hyi, hn0, hxr, hil4, htk4, reduceIte, reduceEqDiff, reduceAdd, reduceLeDiff, reduceLT, reduceCtorEq]
    refine ⟨by omega, fun H12 h12 => ?_⟩
    have hr' : [C.int IntKind.i64 x.op, C.int IntKind.i64 x.to, C.vsl x.a.y 1 0 x.a.ns.length, C.int IntKind.i64 v] = ({ x with n := v } : OIns).row := rfl
    rw [hr', ← List.map_set] at h12
    have knD := Qa2f (b := blk) (is := blk.ins.set 0 { x with n := v }) (knI.stL 0 rfl h12) (Q06 hn0 (by rw [hx]; rfl))
    refine hdone _ _ (k1 + 1 + 1 + 1 + 1 + 1) _ (OBlk.ins_ok (i := 0) (x' := { x with n := v }) hbok hic) (OBlk.ins_sm (i := 0) (x' := { x with n := v }) hbsm (by show x.a.ns.length ≤ _; omega)) (by omega) (by omega) ?_ (by simp [lk]) (by simp [lk])
    rw [Q5t hbi (by rw [hblk]; rfl)]
    exact knD
   ·intro hc2
    refine Qf ?_
    exact hsame _ (by simp [lk]) (by simp [lk])
  ·intro hc
   refine Qf ?_
   exact hsame _ (by simp [lk]) (by simp [lk])
 ·rintro e2 H10 ⟨k3, us, cl, hul, hk3, hk4, hok, hgr, kn, l2, l3⟩
  have hx2 := kn.l 0 rfl
  have hx3 := kn.l 1 rfl
  refine Qa ?_
  simp only [go_sem, hx2, hx3, hcow, l2, l3, reduceIte, reduceEqDiff, reduceAdd, reduceLeDiff, reduceLT, reduceCtorEq]
  intro H8 h8
  have kn := kn.stL 0 rfl h8
  have hx2 := kn.l 0 rfl
  refine Qj ?_
  simp only [go_sem, Qz, Q9, Qax4, reduceIte, List.mem_singleton, forall_eq, RS.op, hx2, hcow, reduceIte, reduceEqDiff, reduceAdd, reduceLeDiff, reduceLT, reduceCtorEq]
  have hheld : Held H8 (un H) (us.flatMap OCode.lg ++ cl) := fun p hp => by
   have hp2 : p ∈ (([(x2, Obj.st [cc]), (x3, Obj.st [cc])] ++ us.flatMap OCode.lg) ++ cl) := by
    rcases List.mem_append.1 hp with h | h
    ·simp [h]
    ·simp [h]
   exact ⟨(kn.get p (List.mem_append_right _ hp2)).1, Qlo (kn.loc p hp2)⟩
  obtain ⟨cs, hf, hcn, hcs⟩ := OCodes.frz (N := 1001) (by omega) hgr hok hheld
  exact ⟨_, FrzL.ag (.cons hf .nil), hK cs _ k3 hk3 (by omega) kn.fin (by omega) (by omega) hcs⟩
end Go.AE.Y

namespace Go.AE.Y
open Go.Proofs.Tryz
theorem Qai7 {R : Rdr} {fl : Bool} {ss : List (List UInt8)} : ∀ (d : Nat) {k : Nat} {H : Heap} {K : V → Heap → Prop} (deep : Int), deep ≤ d → H R.l = R.o k → k + 6 * 2^d ≤ 2^40 →
    (∀ (x : Ex) (H' : Heap) (k' : Nat), k < k' → k' + 3 ≤ k + 6 * 2^d → Upd H H' [(R.l, R.o k')] → x.ok → k + x.size ≤ k' → K (.ag x.cells) H') →
    Qo prog Qem [.c (.ptr R.l 0), .c (.sl fl 1 (Qbd ss)), .c (.int .i64 deep)] H K := by
  intro d
  induction d using Nat.strongRecOn with
  | ind d ih =>
  intro k H K deep hd hH hk hK
  have hp1 : 1 ≤ 2^d := Nat.one_le_two_pow
  have hp0 : d < 2^d := Nat.lt_two_pow_self
  refine Q0 ?_
  refine Qb Qas Qa62 ?_
  refine Qa ?_
  simp only [go_sem, reduceIte, reduceEqDiff, reduceAdd, reduceLeDiff, reduceLT, reduceCtorEq]
  intro x hx H1 h1
  have kn := (Kn.start1 hH (R.o_ne k)).al hx h1
  refine Q2 ?_
  refine Qa ?_
  simp only [go_sem, reduceIte, reduceEqDiff, reduceAdd, reduceLeDiff, reduceLT, reduceCtorEq]
  have rest : ∀ (b : Bool) (H2 : Heap) (k2 : Nat), k ≤ k2 → k2 ≤ k + 1 → Kn H H2 [(R.l, R.o k2)] [(x, .st [.int .i64 0, .int .i64 0, .str [], .sl true 4 []])] → (b = false → 2 ≤ deep) →
      Qae prog (s_l2Expr_2.seq Q8p) (Qz Q50 fun x H' => ∃ x', FrzV H' (un H) x x' ∧ K x' (H'.frz (un H)))
       [(0, V.c (C.ptr R.l 0)), (1, V.c (C.sl fl 1 (Qbd ss))), (2, .c (.int .i64 deep)), (6, V.c (C.ptr x 0)), (14, V.c (.bool b))] H2 := by
    intro b H2 k2 hk1 hk2 kn hb
    have fin : ∀ (op n : Int) (name : List UInt8) (fl : Bool) (kids : List Ex) (H3 : Heap) (k3 : Nat) (o : Obj), k < k3 → k3 + 3 ≤ k + 6 * 2^d → Kn H H3 [(R.l, R.o k3)] [(x, .st [.int .i64 op, .int .i64 n, .str name, .sl fl 4 (Qbh kids)])] →
        (op = 10 → kids.length = 2) → Qdc kids → k + 1 + Qab kids ≤ k3 →
        Q9 Q50 [(6, V.c (C.ptr x 0))] H3 fun x H' => ∃ x', FrzV H' (un H) x x' ∧ K x' (H'.frz (un H)) := by
      intro op n name fl kids H3 k3 o g1 g2 kn g3 g4 g5
      have hx3 := kn.l 0 rfl
      simp only [go_sem, Q9, Q50, reduceIte, List.mem_singleton, forall_eq, RS.op, hx3, reduceIte, reduceEqDiff, reduceAdd, reduceLeDiff, reduceLT, reduceCtorEq]
      refine ⟨_, (Ex.mk op n name kids).frz, hK _ _ k3 g1 g2 kn.fin ?_ ?_⟩
      · simp only [Ex.ok]; exact ⟨g3, g4⟩
      · simp only [Ex.size]; omega
    refine Qg (Qd rfl ?_ ?_)
    · intro hb'
      refine Qa ?_
      simp only [go_sem, reduceIte, reduceEqDiff, reduceAdd, reduceLeDiff, reduceLT, reduceCtorEq]
      refine Qa6p (kn.e 0 rfl) (by omega) fun y H3 k3 g1 g2 hu hok hsz => ?_
      have kn := kn.callE 0 rfl hu (R.o_ne _)
      have hx3 := kn.l 0 rfl
      simp only [go_sem, Q8q, hx3, y.cells_eq, reduceIte, reduceEqDiff, reduceAdd, reduceLeDiff, reduceLT, reduceCtorEq]
      intro H4 h4
      have kn := kn.stL 0 rfl h4
      refine Qj ?_
      simp only [go_sem, Qz]
      refine fin _ _ _ _ _ _ k3 .none (by omega) (by omega) kn (Ex.ok_and hok) (Ex.ok_kids hok) ?_
      have := y.size_kids; omega
    · intro hb'
      have hdp := hb hb'
      have hp : 2^d = 2 * 2^(d-1) := by rw [← Nat.pow_succ']; congr 1; omega
      have hp2 : 1 ≤ 2^(d-1) := Nat.one_le_two_pow
      have ihd := fun {k H K} => @ih (d-1) (by omega) k H K
      generalize 2^(d-1) = e at *
      refine Qf ?_
      simp only [go_sem]
      refine Q2 ?_
      refine Qa ?_
      simp only [go_sem, reduceIte, reduceEqDiff, reduceAdd, reduceLeDiff, reduceLT, reduceCtorEq]
      refine Qa5 (kn.e 0 rfl) (by omega) fun v H3 hv hu => ?_
      have kn := kn.callE 0 rfl hu (R.o_ne _)
      simp only [go_sem, Q8r, reduceIte, reduceEqDiff, reduceAdd, reduceLeDiff, reduceLT, reduceCtorEq]
      refine Qg (Qd rfl ?_ ?_)
      · intro hc
        refine Qa ?_
        simp only [go_sem, reduceIte, reduceEqDiff, reduceAdd, reduceLeDiff, reduceLT, reduceCtorEq]
        refine Qig (ns := [11, 12, 11]) (kn.e 0 rfl) (by omega) (by simp) fun op H4 hop hu => ?_
        have kn := kn.callE 0 rfl hu (R.o_ne _)
        simp only [go_sem, Q8t, reduceIte, reduceEqDiff, reduceAdd, reduceLeDiff, reduceLT, reduceCtorEq]
        refine ⟨Qn (by omega) (by omega), ?_⟩
        refine ihd (deep - 1) (by omega) (kn.e 0 rfl) (by omega) fun y H5 k5 g1 g2 hu hok hsz => ?_
        have kn := kn.callE 0 rfl hu (R.o_ne _)
        have hx5 := kn.l 0 rfl
        simp only [go_sem, Q8s, hx5, y.cells_len, reduceIte, reduceEqDiff, reduceAdd, reduceLeDiff, reduceLT, reduceCtorEq]
        intro H6 h6
        have kn := kn.stL 0 rfl h6
        refine Qj ?_
        simp only [go_sem, Qz]
        refine fin op 0 [] true [y] _ k5 .none (by omega) (by omega) kn (fun h => ?_) ⟨hok, trivial⟩ ?_
        · subst h; simp at hop
        · simp only [Qab]; omega
      · intro hc
        refine Qf ?_
        simp only [go_sem]
        refine Qa ?_
        simp only [go_sem, reduceIte, reduceEqDiff, reduceAdd, reduceLeDiff, reduceLT, reduceCtorEq]
        refine Qig (ns := [3, 3, 4, 5, 6, 7, 8, 9, 10]) (kn.e 0 rfl) (by omega) (by simp) fun op H4 hop hu => ?_
        have kn := kn.callE 0 rfl hu (R.o_ne _)
        simp only [go_sem, Q8u, reduceIte, reduceEqDiff, reduceAdd, reduceLeDiff, reduceLT, reduceCtorEq]
        refine Qa ?_
        simp only [go_sem, reduceIte, reduceEqDiff, reduceAdd, reduceLeDiff, reduceLT, reduceCtorEq]
        refine ⟨Qn (by omega) (by omega), ?_⟩
        refine ihd (deep - 1) (by omega) (kn.e 0 rfl) (by omega) fun y H5 k5 g1 g2 hu hok hsz => ?_
        have kn := kn.callE 0 rfl hu (R.o_ne _)
        simp only [go_sem, Q8w, reduceIte, reduceEqDiff, reduceAdd, reduceLeDiff, reduceLT, reduceCtorEq]
        refine ⟨Qn (by omega) (by omega), ?_⟩
        refine ihd (deep - 1) (by omega) (kn.e 0 rfl) (by omega) fun z H6 k6 g3 g4 hu hok2 hsz2 => ?_
        have kn := kn.callE 0 rfl hu (R.o_ne _)
        have hx5 := kn.l 0 rfl
        simp only [go_sem, Q8v, hx5, y.cells_len, z.cells_len, reduceIte, reduceEqDiff, reduceAdd, reduceLeDiff, reduceLT, reduceCtorEq]
        intro H7 h7
        have kn := kn.stL 0 rfl h7
        refine Qj ?_
        simp only [go_sem, Qz]
        refine fin op 0 [] true [y, z] _ k6 .none (by omega) (by omega) kn (fun h => rfl) ⟨hok, hok2, trivial⟩ ?_
        simp only [Qab]; omega
  refine ⟨fun hb => ?_, fun hb => ?_⟩
  · refine Qa5 (kn.e 0 rfl) (by omega) fun v H2 hv hu => ?_
    have kn := kn.callE 0 rfl hu (R.o_ne _)
    simp only [go_sem, Qtw, reduceIte, reduceEqDiff, reduceAdd, reduceLeDiff, reduceLT, reduceCtorEq]
    refine rest _ H2 (k + 1) (by omega) (by omega) kn ?_
    intro h
    have : ¬ deep < 2 := by simpa using hb
    omega
  · have hb2 : decide (deep < 2) = true := by simpa using hb
    simp only [go_sem, Qtw, hb2, reduceIte, reduceEqDiff, reduceAdd, reduceLeDiff, reduceLT, reduceCtorEq]
    exact rest true H1 k (by omega) (by omega) kn (fun h => by simp at h)
end Go.AE.Y

namespace Go.AE.Y
open Go.Proofs.Tryz
theorem Qai8 {R : Rdr} {gl k : Nat} {s : GS} {H : Heap} {K : V → Heap → Prop} (hR : H R.l = R.o k) (hG : H gl = s.o R) (hne : R.l ≠ gl) (hs : s.ok k) (hk : k + 2 ≤ 2^30)
  (hK : ∀ (name : List UInt8) (H' : Heap) (k' : Nat), k + 1 ≤ k' → k' ≤ k + 2 → Upd H H' [(R.l, R.o k'), (gl, GS.o { s with next := s.next + 1 } R)] → K (.c (.str name)) H') :
  Qo prog Qh8 [.c (.ptr gl 0)] H K := by
 have h0 := hs.n0
 have h1' := hs.n1
 refine Q0 ?_
 refine Qb Qas Qaji ?_
 refine Qa ?_
 simp only [go_sem, reduceIte, reduceEqDiff, reduceAdd, reduceLeDiff, reduceLT, reduceCtorEq]
 refine Qa ?_
 simp only [go_sem, hG, GS.o, reduceIte, reduceEqDiff, reduceAdd, reduceLeDiff, reduceLT, reduceCtorEq]
 refine ⟨Qn (by omega) (by omega), fun H1 h1 => ?_⟩
 have kn : Kn H H1 [(R.l, R.o k), (gl, GS.o { s with next := s.next + 1 } R)] [] := (Kn.start2 hR (R.o_ne k) hG (s.o_ne R) hne).stE 1 rfl h1
 have hG1 := kn.e 1 rfl
 refine Q2 ?_
 refine Qa ?_
 simp only [go_sem, hG1, GS.o, reduceIte, reduceEqDiff, reduceAdd, reduceLeDiff, reduceLT, reduceCtorEq]
 refine Qa5 (kn.e 0 rfl) (by omega) fun v H2 hv hu => ?_
 have kn := kn.callE 0 rfl hu (R.o_ne _)
 have hG2 := kn.e 1 rfl
 simp only [go_sem, Qmd, hG2, GS.o, reduceIte, reduceEqDiff, reduceAdd, reduceLeDiff, reduceLT, reduceCtorEq]
 intro hl
 refine Qg (Qd rfl ?_ ?_)
 ·intro hc
  have hv0 : 0 < s.vars.length := by
   rw [Qao] at hc
   cases h : decide (v = 0) <;> rw [h] at hc <;> simp_all
  refine Qar ?_
  simp only [go_sem, hG2, GS.o, reduceIte, reduceEqDiff, reduceAdd, reduceLeDiff, reduceLT, reduceCtorEq]
  refine of_c (kn.e 0 rfl) (by omega) hv0 fun name H3 hn hu => ?_
  have kn := kn.callE 0 rfl hu (R.o_ne _)
  simp only [go_sem, Qme, reduceIte, reduceEqDiff, reduceAdd, reduceLeDiff, reduceLT, reduceCtorEq]
  refine Qj ?_
  simp only [go_sem, Qz, Q9, Qk3, reduceIte, List.mem_singleton, forall_eq, RS.op, reduceIte, reduceEqDiff, reduceAdd, reduceLeDiff, reduceLT, reduceCtorEq]
  exact ⟨_, .c _ _ (Qi rfl), hK _ _ (k + 1 + 1) (by omega) (by omega) kn.fin⟩
 ·intro hc
  refine Qf ?_
  simp only [go_sem]
  refine Qar ?_
  have e1 : 0 ≤ (s.next + 1).tmod 24 := Int.tmod_nonneg _ (by omega)
  have e2 : (s.next + 1).tmod 24 < 24 := Int.tmod_lt_of_pos _ (by omega)
  simp only [go_sem, hG2, GS.o, reduceIte, reduceEqDiff, reduceAdd, reduceLeDiff, reduceLT, reduceCtorEq]
  refine ⟨by omega, by omega, Qn (by omega) (by omega), by omega, ?_⟩
  refine Qj ?_
  simp only [go_sem, Qz, Q9, Qk3, reduceIte, List.mem_singleton, forall_eq, RS.op, reduceIte, reduceEqDiff, reduceAdd, reduceLeDiff, reduceLT, reduceCtorEq]
  exact ⟨_, .c _ _ (Qi rfl), hK _ _ (k + 1) (by omega) (by omega) kn.fin⟩
theorem Q61 {R : Rdr} {gl k : Nat} {s : GS} {x : Ex} {fl : Bool} {H : Heap} {K : V → Heap → Prop} (hR : H R.l = R.o k) (hG : H gl = s.o R) (hne : R.l ≠ gl) (hs : s.ok k) (hk : k + 2 ≤ 2^30)
  (hK : ∀ (name : List UInt8) (H' : Heap) (k' : Nat), k + 1 ≤ k' → k' ≤ k + 2 → Upd H H' [(R.l, R.o k'), (gl, GS.o { s with next := s.next + 1, vars := s.vars ++ [name], vfl := false } R)] → K (.ag (St.mk 1 name [x] [] []).cells) H') :
  Qo prog Qgz [.c (.ptr gl 0), .ag [.int .i64 x.op, .int .i64 x.n, .str x.name, .sl fl 4 (Qbh x.kids)]] H K := by
 have hv := hs.v
 refine Qiz ?_
 refine Qb Qas Qarw ?_
 refine Qa ?_
 simp only [go_sem, x.cells_eq, reduceIte, reduceEqDiff, reduceAdd, reduceLeDiff, reduceLT, reduceCtorEq]
 intro y hy H1 h1
 have kn := (Kn.start2 hR (R.o_ne k) hG (s.o_ne R) hne).al hy h1
 refine Qa ?_
 simp only [go_sem, reduceIte, reduceEqDiff, reduceAdd, reduceLeDiff, reduceLT, reduceCtorEq]
 refine Qai8 (kn.e 0 rfl) (kn.e 1 rfl) hne hs hk fun name H2 k' g1 g2 hu => ?_
 have kn := kn.callEE 0 1 rfl rfl (by decide) hu (R.o_ne _) (GS.o_ne _ _)
 have hG2 := kn.e 1 rfl
 simp only [go_sem, Qss, reduceIte, reduceEqDiff, reduceAdd, reduceLeDiff, reduceLT, reduceCtorEq]
 refine Qa ?_
 have hL : s.vars.length ≤ LIM := by simp only [LIM]; omega
 have hL1 : s.vars.length + 1 ≤ LIM := by simp only [LIM]; omega
 simp only [go_sem, hG2, GS.o, Qao, Qain, Nat.zero_add, List.nil_append, hL, reduceIte, reduceEqDiff, reduceAdd, reduceLeDiff, reduceLT, reduceCtorEq]
 refine ⟨.inl trivial, Qlm _, ?_⟩
 intro z hz H3 h3
 have kn := kn.al hz h3
 have hz3 := kn.l 1 rfl
 have hG3 := kn.e 1 rfl
 simp only [go_sem, Qsu, hz3, hG3, GS.o, Qao, Qaxe, hL1, List.take_length, List.take_of_length_le, reduceIte, reduceEqDiff, reduceAdd, reduceLeDiff, reduceLT, reduceCtorEq]
 refine ⟨by omega, fun z' hz' H4 h4 => ?_⟩
 have kn := kn.ap 1 rfl hz' h4
 have hG4 := kn.e 1 rfl
 simp only [go_sem, Qst, hG4, GS.o, reduceIte, reduceEqDiff, reduceAdd, reduceLeDiff, reduceLT, reduceCtorEq]
 intro H5 h5
 have kn := kn.stE 1 rfl h5
 have hy5 := kn.l 0 rfl
 refine Qa ?_
 simp only [go_sem, hy5, reduceIte, reduceEqDiff, reduceAdd, reduceLeDiff, reduceLT, reduceCtorEq]
 intro H6 h6
 have kn := kn.stL 0 rfl h6
 have hy6 := kn.l 0 rfl
 refine Qj ?_
 simp only [go_sem, Qz, Q9, Q7q, reduceIte, List.mem_singleton, forall_eq, RS.op, hy6, reduceIte, reduceEqDiff, reduceAdd, reduceLeDiff, reduceLT, reduceCtorEq]
 refine ⟨un H, (.ag (St.mk 1 name [x] [] []).cells), (H6.frz (un H)).set gl (GS.o { s with next := s.next + 1, vars := s.vars ++ [name], vfl := false } R), ?_, ?_, hK name _ k' g1 g2 (kn.fin.set2 hne)⟩
 ·simp only [St.cells, Qbh, Qax, x.cells_eq]
  exact (FrzL.cons (Qi rfl) (.cons (Qi rfl) (.cons (FrzR.cons (.cons (Qi rfl) (.cons (Qi rfl) (.cons (Qi rfl) (.cons (FrzR.same (Qi1 _)).sl .nil)))) .nil).sl (.cons (FrzR.nil).sl (.cons (FrzR.nil).sl .nil))))).ag
 ·refine (Qg2 _ _).set (Qaxg (kn.usedE 1 rfl)) ?_
  rw [kn.e 1 rfl]
  refine FrzKL.st (.same (.same (.cons rfl ?_ (.same (.same .nil)))))
  exact Qai3 (kn.un 1 rfl) (kn.l 1 rfl) (by simp [Qbd]) (Qg4 (Qlm _))
end Go.AE.Y

namespace Go.AE.Y
open Go.Proofs.Tryz
theorem Qbw {R : Rdr} {gl k : Nat} {s : GS} {H : Heap} {K : V → Heap → Prop} (deep : Int) (hd : deep ≤ 3) (hR : H R.l = R.o k) (hG : H gl = s.o R) (hne : R.l ≠ gl) (hs : s.ok k) (hF : FnsOk H R gl s) (hk : k + 200 ≤ 2^30)
    (hK : ∀ (x : Ex) (H' : Heap) (k' : Nat), k < k' → k' ≤ k + 200 → Upd H H' [(R.l, R.o k')] → x.ok → k + x.size ≤ k' → K (.ag x.cells) H') :
    Qo prog Qa4 [.c (.ptr gl 0), .c (.int .i64 deep)] H K := by
  have hfl := hs.fn
  refine Q0 ?_
  refine Qb Qas Qam2 ?_
  refine Qa ?_
  simp only [go_sem, reduceIte, reduceEqDiff, reduceAdd, reduceLeDiff, reduceLT, reduceCtorEq]
  intro x4 hx4 H1 h1
  have kn := (Kn.start2 hR (R.o_ne k) hG (s.o_ne R) hne).al hx4 h1
  have hG1 := kn.e 1 rfl
  refine Qar ?_
  simp only [go_sem, hG1, GS.o, reduceIte, reduceEqDiff, reduceAdd, reduceLeDiff, reduceLT, reduceCtorEq]
  refine Qai7 3 deep (by omega) (kn.e 0 rfl) (by omega) fun e H2 k2 g1 g2 hu heok hesz => ?_
  have kn := kn.callE 0 rfl hu (R.o_ne _)
  have hG2 := kn.e 1 rfl
  simp only [go_sem, Qpk, reduceIte, reduceEqDiff, reduceAdd, reduceLeDiff, reduceLT, reduceCtorEq]
  intro x5 hx5 H3 h3
  have kn := kn.al hx5 h3
  have hG3 := kn.e 1 rfl
  have hx53 := kn.l 1 rfl
  simp only [go_sem, Qpj, hG3, hx53, GS.o, e.cells_len, e.cells_eq, reduceIte, reduceEqDiff, reduceAdd, reduceLeDiff, reduceLT, reduceCtorEq]
  intro H4 h4
  have kn := kn.stL 1 rfl h4
  have hG4 := kn.e 1 rfl
  refine Q2 ?_
  refine Qa ?_
  simp only [go_sem, hG4, GS.o, hF.ow, hF.ok kn, hF.len, reduceIte, reduceEqDiff, reduceAdd, reduceLeDiff, reduceLT, reduceCtorEq]
  intro hl
  have fin : ∀ (op n : Int) (name : List UInt8) (c : C) (kids : List Ex) (H3 : Heap) (k3 : Nat) (L : List (Nat × Obj)), k < k3 → k3 ≤ k + 200 → Kn H H3 [(R.l, R.o k3), (gl, s.o R)] L →
      L[0]? = some (x4, .st [.int .i64 op, .int .i64 n, .str name, c]) → c.isOw = false → FrzC H3 (un H) c (.sl false 4 (Qbh kids)) → (Ex.mk op n name kids).ok → k + (Ex.mk op n name kids).size ≤ k3 →
      Q9 Qha [(4, V.c (C.ptr x4 0))] H3 fun x H' => ∃ x', FrzV H' (un H) x x' ∧ K x' (H'.frz (un H)) := by
    intro op n name c kids H3 k3 L g1 g2 kn g3 hno g4 g5 g6
    have hx3 := kn.l 0 g3
    simp only [go_sem, Q9, Qha, reduceIte, List.mem_singleton, forall_eq, RS.op, hx3, hno, reduceIte, reduceEqDiff, reduceAdd, reduceLeDiff, reduceLT, reduceCtorEq]
    refine ⟨(.ag (Ex.mk op n name kids).cells), ?_, hK _ _ k3 g1 g2 (kn.fin.drop2 hG) g5 g6⟩
    rw [Ex.cells_eq]
    exact (FrzL.cons (Qi rfl) (.cons (Qi rfl) (.cons (Qi rfl) (.cons g4 .nil)))).ag
  have rest : ∀ (b : Bool) (H2 : Heap) (k3 : Nat), k2 ≤ k3 → k3 ≤ k2 + 1 → Kn H H2 [(R.l, R.o k3), (gl, s.o R)] [(x4, .st [.int .i64 0, .int .i64 0, .str [], .sl true 4 []]), (x5, .st [.int .i64 e.op, .int .i64 e.n, .str e.name, .sl false 4 (Qbh e.kids)])] →
      (b = false → 0 < s.fns.length) →
      Qae prog (s_l3Gen_expr_3.seq Qpi) (Qz Qha fun x H' => ∃ x', FrzV H' (un H) x x' ∧ K x' (H'.frz (un H)))
       [(0, V.c (C.ptr gl 0)), (4, V.c (C.ptr x4 0)), (5, V.c (C.ptr x5 0)), (32, .c (.bool b))] H2 := by
    intro b H2 k3 g3 g4 kn hb
    have hx52 := kn.l 1 rfl
    have hx42 := kn.l 0 rfl
    refine Qg (Qd rfl ?_ ?_)
    · intro hb'
      refine Qa ?_
      simp only [go_sem, hx52, hx42, reduceIte, reduceEqDiff, reduceAdd, reduceLeDiff, reduceLT, reduceCtorEq]
      intro H3 h3
      have kn := kn.stL 0 rfl h3
      refine Qj ?_
      simp only [go_sem, Qz]
      cases e with
      | mk op n name kids => exact fin op n name _ kids H3 k3 _ (by omega) (by omega) kn rfl rfl (Q6u (Qg4 (Qi1 _))) heok (by omega)
    · intro hb'
      have hfn := hb hb'
      refine Qf ?_
      simp only [go_sem]
      have hG3 := kn.e 1 rfl
      refine Qar ?_
      simp only [go_sem, hG3, GS.o, hF.ow, hF.ok kn, hF.len, reduceIte, reduceEqDiff, reduceAdd, reduceLeDiff, reduceLT, reduceCtorEq]
      refine Qa5 (kn.e 0 rfl) (by omega) fun v H3 hv hu => ?_
      have kn := kn.callE 0 rfl hu (R.o_ne _)
      rw [if_neg (by omega)] at hv
      obtain ⟨i, rfl⟩ := Int.eq_ofNat_of_zero_le hv.1
      have hi : i < s.fns.length := by omega
      have hG4 := kn.e 1 rfl
      simp only [go_sem, Qpm, hG4, GS.o, hF.ow, hF.ok kn, hF.len, hF.rows kn, hF.esz, hi, Qfj _ _ hi, Fn.cells, reduceIte, reduceEqDiff, reduceAdd, reduceLeDiff, reduceLT, reduceCtorEq]
      intro x6 hx6 H4 h4
      have kn := kn.al hx6 h4
      have hG5 := kn.e 1 rfl
      have hx64 := kn.l 2 rfl
      simp only [go_sem, Qpl, hG5, hx64, GS.o, hF.ow, hF.ok kn, hF.len, hF.rows kn, hF.esz, hi, Qfj _ _ hi, Fn.cells, reduceIte, reduceEqDiff, reduceAdd, reduceLeDiff, reduceLT, reduceCtorEq]
      have hpar := hs.f _ (List.getElem_mem hi)
      generalize s.fns[i] = f at *
      intro H5 h5
      have kn := kn.stL 2 rfl h5
      have hx65 := kn.l 2 rfl
      refine Qa ?_
      simp only [go_sem, hx65, reduceIte, reduceEqDiff, reduceAdd, reduceLeDiff, reduceLT, reduceCtorEq]
      intro x7 hx7 H6 h6
      have kn := kn.al hx7 h6
      have hx67 := kn.l 2 rfl
      have hx77 := kn.l 3 rfl
      simp only [go_sem, Qpn, hx67, hx77, reduceIte, reduceEqDiff, reduceAdd, reduceLeDiff, reduceLT, reduceCtorEq]
      intro H7 h7
      have kn := kn.stL 3 rfl h7
      refine Q2 ?_
      refine Qa ?_
      simp only [go_sem, reduceIte, reduceEqDiff, reduceAdd, reduceLeDiff, reduceLT, reduceCtorEq]
      refine Qg (Qc (Qt (fun n e1 H1 => ∃ (i k4 : Nat) (kids : List Ex) (c : C) (Lg : List (Nat × Obj)), n = f.params.length - i ∧ i ≤ f.params.length ∧ k4 ≤ k3 + 1 + 21 * i ∧ k3 + 1 + Qab kids ≤ k4 ∧ Qdc kids ∧ kids.length = i ∧
        Gr Lg 4 (Qbh kids) c ∧ Kn H H1 [(R.l, R.o k4), (gl, s.o R)] ([(x4, .st [.int .i64 0, .int .i64 0, .str [], .sl true 4 []]), (x5, .st [.int .i64 e.op, .int .i64 e.n, .str e.name, .sl false 4 (Qbh e.kids)]),
          (x6, .st [.str f.name, .sl false 1 (Qbd f.params), .sl false 5 (Qax f.body)]), (x7, .st [.int .i64 13, .int .i64 0, .str f.name, c])] ++ Lg) ∧
        e1 = [(0, V.c (C.ptr gl 0)), (4, V.c (C.ptr x4 0)), (6, V.c (C.ptr x6 0)), (7, V.c (C.ptr x7 0)), (8, V.c (C.int IntKind.i64 i))]) f.params.length ?_ ?_))
      · exact ⟨0, k3 + 1, [], _, [], by omega, by omega, by omega, by simp [Qab], trivial, rfl, .nil 4, kn, rfl⟩
      · rintro n e1 H1 ⟨i, k4, kids, c, Lg, hn, hi1, hk4, hksz, hkok, hkl, hgr, kn, rfl⟩
        have hx61 := kn.l 2 rfl
        have hx71 := kn.l 3 rfl
        have hG1 := kn.e 1 rfl
        refine Q2 ?_
        refine Qa ?_
        simp only [go_sem, hx61, Qao, reduceIte, reduceEqDiff, reduceAdd, reduceLeDiff, reduceLT, reduceCtorEq]
        intro hpl
        refine Qg (Qd rfl ?_ ?_)
        · intro hc
          have hlt : i < f.params.length := by simpa using hc
          refine Qf ?_
          simp only [go_sem]
          refine Qg (Qc (Qb4 ?_))
          have hcow := hgr.isOw
          simp only [go_sem, hx71, hG1, GS.o, hcow, reduceIte, reduceEqDiff, reduceAdd, reduceLeDiff, reduceLT, reduceCtorEq]
          refine Qai7 2 2 (by omega) (kn.e 0 rfl) (by omega) fun z H2 k5 g5 g6 hu hok hsz => ?_
          have kn := kn.callE 0 rfl hu (R.o_ne _)
          have hx72 := kn.l 3 rfl
          simp only [go_sem, Qpp, hx72, hcow, z.cells_len, reduceIte, reduceEqDiff, reduceAdd, reduceLeDiff, reduceLT, reduceCtorEq]
          refine kn.grow (new := [z.cells]) hgr (.mk' _ _ _ _) (by simp [z.noOw]) (by simp only [Qaz, List.length_cons, List.length_nil, LIM]; omega) fun y' H3 kn => ?_
          have hx73 := kn.l 3 rfl
          simp only [go_sem, Qpo, hx73, reduceIte, reduceEqDiff, reduceAdd, reduceLeDiff, reduceLT, reduceCtorEq]
          intro H4 h4
          have kn := kn.stL 3 rfl h4
          refine Qp ?_
          simp only [go_sem, reduceIte, reduceEqDiff, reduceAdd, reduceLeDiff, reduceLT, reduceCtorEq]
          refine ⟨Qn (by omega) (by omega), ?_⟩
          refine ⟨f.params.length - (i + 1), by omega, i + 1, k5, kids ++ [z], _, _, rfl, by omega, by omega, ?_, Qa2b hkok ⟨hok, trivial⟩, by simp [hkl], ?_, kn, ?_⟩
          · simp only [Qs8, Qab]; omega
          · rw [← Qayx]; exact .mk _ _ _ (by simp)
          · simp
        · intro hc
          have hge : f.params.length ≤ i := by simpa using hc
          refine Qs ?_
          simp only [go_sem, X.next]
          refine Q2 ?_
          refine Qa ?_
          simp only [go_sem, hG1, GS.o, reduceIte, reduceEqDiff, reduceAdd, reduceLeDiff, reduceLT, reduceCtorEq]
          refine Qa5 (kn.e 0 rfl) (by omega) fun v H2 hv hu => ?_
          have kn := kn.callE 0 rfl hu (R.o_ne _)
          have hx72 := kn.l 3 rfl
          have hx42 := kn.l 0 rfl
          have hcow := hgr.isOw
          have hG2 := kn.e 1 rfl
          simp only [go_sem, Qma, reduceIte, reduceEqDiff, reduceAdd, reduceLeDiff, reduceLT, reduceCtorEq]
          refine Qg (Qd rfl ?_ ?_)
          · intro hc
            refine Qa ?_
            simp only [go_sem, hx72, hx42, hcow, reduceIte, reduceEqDiff, reduceAdd, reduceLeDiff, reduceLT, reduceCtorEq]
            intro H3 h3
            have kn := kn.stL 0 rfl h3
            refine Qj ?_
            simp only [go_sem, Qz]
            refine fin 13 0 f.name c kids H3 (k4 + 1) _ (by omega) (by omega) kn rfl hcow (hgr.frz (B := [_, _, _, _]) kn (Qi1 _)) ?_ ?_
            · simp only [Ex.ok]; exact ⟨fun h => by simp at h, hkok⟩
            · simp only [Ex.size]; omega
          · intro hc
            refine Qf ?_
            simp only [go_sem]
            refine Qar ?_
            simp only [go_sem, hx72, hG2, hcow, GS.o, reduceIte, reduceEqDiff, reduceAdd, reduceLeDiff, reduceLT, reduceCtorEq]
            refine Qig (ns := [3, 4, 8, 10]) (kn.e 0 rfl) (by omega) (by simp) fun op H3 hop hu => ?_
            have kn := kn.callE 0 rfl hu (R.o_ne _)
            have hx73 := kn.l 3 rfl
            have hG3 := kn.e 1 rfl
            simp only [go_sem, Qmc, hx73, hG3, hcow, GS.o, reduceIte, reduceEqDiff, reduceAdd, reduceLeDiff, reduceLT, reduceCtorEq]
            refine Qai7 2 2 (by omega) (kn.e 0 rfl) (by omega) fun z H4 k5 g5 g6 hu hok hsz => ?_
            have kn := kn.callE 0 rfl hu (R.o_ne _)
            have hx74 := kn.l 3 rfl
            have hx44 := kn.l 0 rfl
            simp only [go_sem, Qmb, hx74, hx44, hcow, z.cells_len, reduceIte, reduceEqDiff, reduceAdd, reduceLeDiff, reduceLT, reduceCtorEq]
            intro H5 h5
            have kn := kn.stL 0 rfl h5
            refine Qj ?_
            simp only [go_sem, Qz]
            refine fin op 0 [] _ [Ex.mk 13 0 f.name kids, z] H5 k5 _ (by omega) (by omega) kn rfl rfl ?_ ?_ ?_
            · refine FrzR.sl (.cons ?_ (.cons (.same z.noOw) .nil))
              rw [Ex.cells_eq]
              exact .cons (Qi rfl) (.cons (Qi rfl) (.cons (Qi rfl) (.cons (hgr.frz (B := [_, _, _, _]) kn (Qi1 _)) .nil)))
            · simp only [Ex.ok, Qdc]; exact ⟨fun h => rfl, ⟨fun h => by simp at h, hkok⟩, hok, trivial⟩
            · simp only [Ex.size, Qab]; omega
  refine ⟨fun hb => ?_, fun hb => ?_⟩
  · refine Qa5 (kn.e 0 rfl) (by omega) fun v H5 hv hu => ?_
    have kn := kn.callE 0 rfl hu (R.o_ne _)
    simp only [go_sem, Qga, reduceIte, reduceEqDiff, reduceAdd, reduceLeDiff, reduceLT, reduceCtorEq]
    refine rest _ H5 (k2 + 1) (by omega) (by omega) kn ?_
    intro h
    have : ¬ s.fns.length = 0 := by simpa using hb
    omega
  · have hb2 : decide ((s.fns.length : Int) = 0) = true := by simpa using hb
    simp only [go_sem, Qga, hb2, reduceIte, reduceEqDiff, reduceAdd, reduceLeDiff, reduceLT, reduceCtorEq]
    exact rest true H4 k2 (by omega) (by omega) kn (fun h => by simp at h)
end Go.AE.Y

namespace Go.AE.Y
open Go.Proofs.Tryz
theorem Q07 {R : Rdr} {gl k : Nat} {s : GS} {H : Heap} {K : V → Heap → Prop} (hR : H R.l = R.o k) (hG : H gl = s.o R) (hne : R.l ≠ gl) (hs : s.ok k) (hF : FnsOk H R gl s) (hk : k + 201 ≤ 2^30)
  (hK : ∀ (x : Ex) (H' : Heap) (k' : Nat), k < k' → k' ≤ k + 201 → Upd H H' [(R.l, R.o k')] → x.ok → 2 * k + x.size ≤ 2 * k' → K (.ag x.cells) H') :
  Qo prog Qe9 [.c (.ptr gl 0)] H K := by
 refine Q0 ?_
 refine Qb Qas Qam1 ?_
 refine Qa ?_
 simp only [go_sem, reduceIte, reduceEqDiff, reduceAdd, reduceLeDiff, reduceLT, reduceCtorEq]
 intro x2 hx2 H1 h1
 have kn := (Kn.start2 hR (R.o_ne k) hG (s.o_ne R) hne).al hx2 h1
 have hG1 := kn.e 1 rfl
 refine Qar ?_
 simp only [go_sem, hG1, GS.o, reduceIte, reduceEqDiff, reduceAdd, reduceLeDiff, reduceLT, reduceCtorEq]
 refine Qbw 2 (by omega) (kn.e 0 rfl) (kn.e 1 rfl) hne hs (hF.keep kn rfl rfl) (by omega) fun e H2 k2 g1 g2 hu heok hesz => ?_
 have kn := kn.callE 0 rfl hu (R.o_ne _)
 have hG2 := kn.e 1 rfl
 simp only [go_sem, Qph, hG2, GS.o, reduceIte, reduceEqDiff, reduceAdd, reduceLeDiff, reduceLT, reduceCtorEq]
 refine Qig (ns := [16, 16, 16, 8, 17, 0]) (kn.e 0 rfl) (by omega) (by simp) fun v H3 hv hu => ?_
 have kn := kn.callE 0 rfl hu (R.o_ne _)
 have hx23 := kn.l 0 rfl
 simp only [go_sem, Qpg, hx23, e.cells_len, reduceIte, reduceEqDiff, reduceAdd, reduceLeDiff, reduceLT, reduceCtorEq]
 intro H4 h4
 have kn := kn.stL 0 rfl h4
 have hx24 := kn.l 0 rfl
 refine Qj ?_
 simp only [go_sem, Qz, Q9, Q1b, reduceIte, List.mem_singleton, forall_eq, RS.op, hx24, reduceIte, reduceEqDiff, reduceAdd, reduceLeDiff, reduceLT, reduceCtorEq]
 refine ⟨(.ag (Ex.mk 7 0 [] [e, Ex.mk 1 v [] []]).cells), ?_, hK _ _ (k2 + 1) (by omega) (by omega) (kn.fin.drop2 hG) ?_ ?_⟩
 ·rw [Ex.cells_eq (Ex.mk 7 0 [] _)]
  refine FrzL.ag ?_
  refine .cons (Qi rfl) (.cons (Qi rfl) (.cons (Qi rfl) (.cons (FrzR.sl (.cons (.same e.noOw) (.cons ?_ .nil))) .nil)))
  simp only [Ex.cells, Qbh]
  exact .cons (Qi rfl) (.cons (Qi rfl) (.cons (Qi rfl) (.cons (FrzR.nil).sl .nil)))
 ·simp only [Ex.ok, Qdc]; exact ⟨fun h => rfl, heok, ⟨fun h => by simp at h, trivial⟩, trivial⟩
 ·simp only [Ex.size, Qab]; omega
def Qa88 (d : Nat) : Prop := ∀ (R : Rdr) (gl k : Nat) (s : GS) (H : Heap) (K : V → Heap → Prop) (deep : Int), deep ≤ d → H R.l = R.o k → H gl = s.o R → R.l ≠ gl → s.ok k → FnsOk H R gl s → k + 500 * 10^d ≤ 2^30 →
  (∀ (l : List St) (s' : GS) (H' : Heap) (k' : Nat), k < k' → k' ≤ k + 500 * 10^d → Upd H H' [(R.l, R.o k'), (gl, s'.o R)] → s'.ok k' → s.left + 4 * (k : Int) ≤ s'.left + 4 * (k' : Int) → s'.fns = s.fns → s'.ffl = s.ffl → l.length ≤ 2 → Qcm l → 4 * k + Qv l ≤ 4 * k' → K (.c (.sl false 5 (Qax l))) H') →
  Qo prog Qkq [.c (.ptr gl 0), .c (.int .i64 deep)] H K
def Q56 (d : Nat) : Prop := ∀ (R : Rdr) (gl k : Nat) (s : GS) (H : Heap) (K : V → Heap → Prop) (deep : Int), deep ≤ d → H R.l = R.o k → H gl = s.o R → R.l ≠ gl → s.ok k → FnsOk H R gl s → k + 2001 * 10^d ≤ 2^30 →
  (∀ (l : List St) (c : C) (Lg : List (Nat × Obj)) (s' : GS) (H' : Heap) (k' : Nat), k < k' → k' ≤ k + 2001 * 10^d → Upd H H' [(R.l, R.o k'), (gl, s'.o R)] → Gr Lg 5 (Qax l) c → New H H' Lg → s'.ok k' → s.left + 4 * (k : Int) ≤ s'.left + 4 * (k' : Int) → s'.fns = s.fns → s'.ffl = s.ffl →
   l.length ≤ 8 → Qcm l → 4 * k + Qv l ≤ 4 * k' → K (.c c) H') →
  Qo prog Qb6 [.c (.ptr gl 0), .c (.int .i64 deep)] H K
theorem Qaxm {d : Nat} (hS : Qa88 d) : Q56 d := by
 intro R gl k s H K deep hd hR hG hne hs hF hk hK
 have hp0 : d < 10^d := Nat.lt_pow_self (by omega)
 generalize hpe : 10^d = e at *
 have hS' := hS
 simp only [Qa88] at hS'
 rw [hpe] at hS'
 generalize hM : 500 * e = M at *
 refine Qiz ?_
 refine Qb Qas Qajh ?_
 refine Qa ?_
 simp only [go_sem, reduceIte, reduceEqDiff, reduceAdd, reduceLeDiff, reduceLT, reduceCtorEq]
 refine Qa ?_
 simp only [go_sem, hG, GS.o, reduceIte, reduceEqDiff, reduceAdd, reduceLeDiff, reduceLT, reduceCtorEq]
 refine Qa ?_
 simp only [go_sem, reduceIte, reduceEqDiff, reduceAdd, reduceLeDiff, reduceLT, reduceCtorEq]
 refine Q2 ?_
 refine Qa ?_
 simp only [go_sem, hG, GS.o, reduceIte, reduceEqDiff, reduceAdd, reduceLeDiff, reduceLT, reduceCtorEq]
 have kn := Kn.start2 hR (R.o_ne k) hG (s.o_ne R) hne
 refine Qig (ns := [2, 3, 1, 4]) hR (by omega) (by simp) fun v H1 hv hu => ?_
 have kn := kn.callE 0 rfl hu (R.o_ne _)
 simp only [go_sem, Ql7, reduceIte, reduceEqDiff, reduceAdd, reduceLeDiff, reduceLT, reduceCtorEq]
 have hv4 : 1 ≤ v ∧ v ≤ 4 := by simp at hv; omega
 refine Qg (Qc (Qt (fun n e1 H1 => ∃ (j k4 : Nat) (l : List St) (c : C) (Lg : List (Nat × Obj)) (s' : GS), n = v.toNat - j ∧ (j : Int) ≤ v ∧ k + 1 ≤ k4 ∧ k4 ≤ k + 1 + M * j ∧ 4 * k + Qv l ≤ 4 * k4 ∧ Qcm l ∧ l.length ≤ 2 * j ∧
    Gr Lg 5 (Qax l) c ∧ s'.ok k4 ∧ s.left + 4 * (k : Int) ≤ s'.left + 4 * (k4 : Int) ∧ s'.fns = s.fns ∧ s'.ffl = s.ffl ∧ Kn H H1 [(R.l, R.o k4), (gl, s'.o R)] ([] ++ Lg) ∧
    e1 = [(0, V.c (C.ptr gl 0)), (1, .c (.int .i64 deep)), (5, .c (.sl s.vfl 1 (Qbd s.vars))), (6, .c c), (7, V.c (C.int IntKind.i64 (v - j)))]) v.toNat ?_ ?_))
 ·exact ⟨0, k + 1, [], _, [], s, by omega, by omega, by omega, by omega, by simp only [Qv]; omega, trivial, by simp, .nil 5, hs.mono (by omega), by omega, rfl, rfl, kn, by simp⟩
 ·rintro n e1 H1 ⟨j, k4, l, c, Lg, s', hn, hj, hk4, hk4', hsz, hok, hll, hgr, hs', hlf, hf1, hf2, kn, rfl⟩
  have hG1 := kn.e 1 rfl
  have hMj : M * j ≤ M * 4 := Nat.mul_le_mul_left _ (by omega)
  refine Q2 ?_
  refine Qa ?_
  simp only [go_sem, hG1, GS.o, reduceIte, reduceEqDiff, reduceAdd, reduceLeDiff, reduceLT, reduceCtorEq]
  refine Qg (Qd rfl ?_ ?_)
  ·intro hc
   have hi : (j : Int) < v := by
    cases h : decide (0 < v - (j : Int)) with
    | true => have : 0 < v - (j : Int) := by simpa using h
              omega
    | false => rw [h] at hc; simp at hc
   have hM1 : M * (j + 1) = M * j + M := Nat.mul_succ _ _
   have hM2 : M * (j + 1) ≤ M * 4 := Nat.mul_le_mul_left _ (by omega)
   refine Qf ?_
   simp only [go_sem]
   refine Qg (Qc (Qp ?_))
   simp only [go_sem, reduceIte, reduceEqDiff, reduceAdd, reduceLeDiff, reduceLT, reduceCtorEq]
   refine hS' _ _ _ _ _ _ deep hd (kn.e 0 rfl) (kn.e 1 rfl) hne hs' (hF.keep kn hf1 hf2) (by omega) fun l2 s2 H2 k5 g1 g2 hu g3 glf g4 g5 g6 g7 g8 => ?_
   have kn := kn.callEE 0 1 rfl rfl (by decide) hu (R.o_ne _) (GS.o_ne _ _)
   simp only [go_sem, Ql9, reduceIte, reduceEqDiff, reduceAdd, reduceLeDiff, reduceLT, reduceCtorEq]
   refine kn.grow hgr (.mk' _ _ _ (Qax l2)) (Qfl _) (by simp only [Qa3, LIM]; omega) fun y' H3 kn => ?_
   simp only [go_sem, Ql8, reduceIte, reduceEqDiff, reduceAdd, reduceLeDiff, reduceLT, reduceCtorEq]
   refine Qp ?_
   simp only [go_sem, reduceIte, reduceEqDiff, reduceAdd, reduceLeDiff, reduceLT, reduceCtorEq]
   refine ⟨Qn (by omega) (by omega), ?_⟩
   simp only [X.next]
   refine ⟨v.toNat - (j + 1), by omega, j + 1, k5, l ++ l2, .vsl y' 5 0 ((Qax l).length + (Qax l2).length), _, s2, rfl, by omega, by omega, by omega, ?_, Qade hok g7, by simp; omega, ?_, g3, by omega, g4.trans hf1, g5.trans hf2, kn, ?_⟩
   ·rw [Qgr]; omega
   ·rw [Qadd]; exact .mk _ _ _ (by simp [Qa3])
   ·have : v - ((j + 1 : Nat) : Int) = v - j - 1 := by omega
    rw [this]
  ·intro hc
   refine Qs ?_
   simp only [go_sem, X.next]
   refine Qa ?_
   simp only [go_sem, hG1, GS.o, reduceIte, reduceEqDiff, reduceAdd, reduceLeDiff, reduceLT, reduceCtorEq]
   intro H2 h2
   have kn : Kn H H2 [(R.l, R.o k4), (gl, GS.o { s' with vars := s.vars, vfl := s.vfl } R)] ([] ++ Lg) := kn.stE 1 rfl h2
   refine Qa ?_
   simp only [go_sem, reduceIte, reduceEqDiff, reduceAdd, reduceLeDiff, reduceLT, reduceCtorEq]
   refine Qj ?_
   simp only [go_sem, Qz, Q9, Qu7, reduceIte, List.mem_singleton, forall_eq, RS.op, reduceIte, reduceEqDiff, reduceAdd, reduceLeDiff, reduceLT, reduceCtorEq]
   refine ⟨unx H Lg, _, H2.frz (unx H Lg), .c _ _ (.same _ hgr.isOw), Qg2 _ _, ?_⟩
   refine hK l c Lg _ _ k4 (by omega) (by omega) kn.finx.1 hgr kn.finx.2 ⟨hs'.n0, hs'.n1, hs'.l0, hs'.l1, ?_, hs'.f, hs'.fn⟩ (by show _ ≤ s'.left + _; omega) hf1 hf2 (by omega) hok hsz
   have := hs.v
   show s.vars.length ≤ _
   omega
end Go.AE.Y

namespace Go.AE.Y
open Go.Proofs.Tryz
def Qa86 (d : Nat) : Prop := ∀ (R : Rdr) (gl k : Nat) (s : GS) (H : Heap) (K : V → Heap → Prop) (deep : Int), deep ≤ d + 1 → 2 ≤ deep → H R.l = R.o k → H gl = s.o R → R.l ≠ gl → s.ok k → FnsOk H R gl s → k + 2001 * 10^d + 10 ≤ 2^30 →
  (∀ (l : List St) (s' : GS) (H' : Heap) (k' : Nat), k + 2 < k' → k' ≤ k + 2001 * 10^d + 3 → Upd H H' [(R.l, R.o k'), (gl, s'.o R)] → s'.ok k' → s.left + 4 * (k : Int) ≤ s'.left + 4 * (k' : Int) → s'.fns = s.fns → s'.ffl = s.ffl → l.length ≤ 2 → Qcm l → 4 * k + Qv l ≤ 4 * k' → K (.c (.sl false 5 (Qax l))) H') →
  Qo prog Qkp [.c (.ptr gl 0), .c (.int .i64 deep)] H K
theorem Qbad {d : Nat} (hB : Q56 d) : Qa86 d := by
 intro R gl k s H K deep hd hd2 hR hG hne hs hF hk hK
 have hp0 : d < 10^d := Nat.lt_pow_self (by omega)
 have hB' := hB
 simp only [Q56] at hB'
 generalize hpe : 10^d = e at *
 refine Q0 ?_
 refine Qb Qas Qam3 ?_
 refine Qa ?_
 simp only [go_sem, reduceIte, reduceEqDiff, reduceAdd, reduceLeDiff, reduceLT, reduceCtorEq]
 refine Qa ?_
 simp only [go_sem, hG, GS.o, reduceIte, reduceEqDiff, reduceAdd, reduceLeDiff, reduceLT, reduceCtorEq]
 have kn := Kn.start2 hR (R.o_ne k) hG (s.o_ne R) hne
 refine Qig (ns := [2, 3, 1, 0, 5]) hR (by omega) (by simp) fun v H1 hv hu => ?_
 have kn := kn.callE 0 rfl hu (R.o_ne _)
 simp only [go_sem, Qpt, reduceIte, reduceEqDiff, reduceAdd, reduceLeDiff, reduceLT, reduceCtorEq]
 refine Q61 (x := Ex.mk 1 v [] []) (fl := true) (kn.e 0 rfl) (kn.e 1 rfl) hne (hs.mono (Nat.le_succ k)) (by omega) fun name H2 k2 g1 g2 hu => ?_
 have kn := kn.callEE 0 1 rfl rfl (by decide) hu (R.o_ne _) (GS.o_ne _ _)
 simp only [go_sem, Qps, reduceIte, reduceEqDiff, reduceAdd, reduceLeDiff, reduceLT, reduceCtorEq]
 intro x5 hx5 H3 h3
 have kn := kn.al hx5 h3
 have hx53 := kn.l 0 rfl
 simp only [go_sem, Qpr, hx53, St.cells_len, St.cells, reduceIte, reduceEqDiff, reduceAdd, reduceLeDiff, reduceLT, reduceCtorEq]
 intro H4 h4
 have kn := kn.stL 0 rfl h4
 have hx54 := kn.l 0 rfl
 refine Qa ?_
 simp only [go_sem, hx54, reduceIte, reduceEqDiff, reduceAdd, reduceLeDiff, reduceLT, reduceCtorEq]
 intro x6 hx6 H5 h5
 have kn := kn.al hx6 h5
 have hx65 := kn.l 1 rfl
 simp only [go_sem, Qpu, hx65, reduceIte, reduceEqDiff, reduceAdd, reduceLeDiff, reduceLT, reduceCtorEq]
 intro H6 h6
 have kn := kn.stL 1 rfl h6
 refine Qa ?_
 simp only [go_sem, reduceIte, reduceEqDiff, reduceAdd, reduceLeDiff, reduceLT, reduceCtorEq]
 refine ⟨Qn (by omega) (by omega), ?_⟩
 have hs2 : GS.ok { s with next := s.next + 1, vars := s.vars ++ [name], vfl := false } k2 := by
  refine ⟨?_, ?_, ?_, hs.l1, ?_, hs.f, hs.fn⟩
  ·have := hs.n0; show -1 ≤ s.next + 1; omega
  ·have := hs.n1; show s.next + 1 ≤ _; omega
  ·have := hs.l0; show _ ≤ s.left; omega
  ·have := hs.v; show (s.vars ++ [name]).length ≤ _; simp; omega
 refine hB' _ _ _ _ _ _ (deep - 1) (by omega) (kn.e 0 rfl) (kn.e 1 rfl) hne hs2 (hF.keep kn rfl rfl) (by omega) fun l c Lg s3 H7 k3 g3 g4 hu hgr hnew hs3 glf g5 g6 g7 g8 g9 => ?_
 have kn0 := kn
 have kn := kn.callEE 0 1 rfl rfl (by decide) hu (R.o_ne _) (GS.o_ne _ _)
 have kn := kn0.addGr kn rfl rfl hgr hnew
 have hx57 := kn.l 0 rfl
 have hx67 := kn.l 1 rfl
 simp only [go_sem, Qpv, reduceIte, reduceEqDiff, reduceAdd, reduceLeDiff, reduceLT, reduceCtorEq]
 refine Qa ?_
 simp only [go_sem, hx57, hx67, reduceIte, reduceEqDiff, reduceAdd, reduceLeDiff, reduceLT, reduceCtorEq]
 intro x8 hx8 H8 h8
 have kn := kn.al hx8 h8
 have kn := kn.perm (L' := [(x5, _), (x6, _), (x8, _)] ++ Lg) (by
  simp only [List.set, List.nil_append, List.cons_append, List.append_assoc]
  refine .cons _ (.cons _ ?_)
  exact List.perm_append_comm)
 have hx88 := kn.l 2 rfl
 simp only [go_sem, Qpw, hx88, reduceIte, reduceEqDiff, reduceAdd, reduceLeDiff, reduceLT, reduceCtorEq]
 intro H9 h9
 have kn := kn.stL 2 rfl h9
 have hG9 := kn.e 1 rfl
 refine Qa ?_
 simp only [go_sem, hG9, GS.o, reduceIte, reduceEqDiff, reduceAdd, reduceLeDiff, reduceLT, reduceCtorEq]
 have hl0 := hs3.l0
 have hl1 := hs3.l1
 refine ⟨Qn (by omega) (by omega), fun H10 h10 => ?_⟩
 have kn : Kn H H10 [(R.l, R.o k3), (gl, GS.o { s3 with left := s3.left - 2 } R)] ([(x5, _), (x6, _), (x8, _)] ++ Lg) := kn.stE 1 rfl h10
 have hx5a := kn.l 0 rfl
 have hx6a := kn.l 1 rfl
 have hx8a := kn.l 2 rfl
 refine Qar ?_
 simp only [go_sem, hx5a, hx6a, hx8a, reduceIte, reduceEqDiff, reduceAdd, reduceLeDiff, reduceLT, reduceCtorEq]
 refine kn.grow hgr (.mk' _ _ _ _) (by intro r hr; simp only [List.mem_singleton] at hr; subst hr; rfl) (by simp only [Qa3, LIM, List.length_cons, List.length_nil]; omega) fun y' H11 kn => ?_
 have hx5b := kn.l 0 rfl
 have hx6b := kn.l 1 rfl
 have hyb := kn.l 3 rfl
 simp only [go_sem, Qpx, hx5b, hx6b, reduceIte, reduceEqDiff, reduceAdd, reduceLeDiff, reduceLT, reduceCtorEq]
 refine Qj ?_
 simp only [go_sem, Qz, Q9, Q1c, reduceIte, List.mem_singleton, forall_eq, RS.op, reduceIte, reduceEqDiff, reduceAdd, reduceLeDiff, reduceLT, reduceCtorEq]
 have hok1 : GS.ok { s3 with left := s3.left - 2 } k3 := ⟨hs3.n0, hs3.n1, by show _ ≤ s3.left - 2; have := hs.l0; simp only at glf; omega, by show s3.left - 2 ≤ 100; omega, hs3.v, hs3.f, hs3.fn⟩
 refine ⟨.c (.sl false 5 (Qax [St.mk 1 name [Ex.mk 1 v [] []] [] [], St.mk 6 [] [Ex.mk 2 0 name []] (l ++ [St.mk 2 name [Ex.mk 4 0 [] [Ex.mk 2 0 name [], Ex.mk 1 1 [] []]] [] []]) []])), .c _ _ ?_, hK _ _ _ k3 (by omega) (by omega) kn.fin hok1 (by show _ ≤ s3.left - 2 + _; simp only at glf; omega) g5 g6 (by simp) ?_ ?_⟩
 ·simp only [Qax, St.cells, Qbh, Ex.cells, ← Qadd]
  repeat' first | exact FrzL.nil | exact FrzR.nil | exact Qi rfl | exact FrzL.same (Ex.noOw _) | exact FrzL.same (St.noOw _) | refine FrzL.cons ?_ ?_ | refine FrzR.cons ?_ ?_ | refine FrzR.sl ?_
  refine FrzR.vsl (kn.un 3 rfl) hyb (by simp) (.app (.same (Qfl _)) ?_)
  repeat' first | exact FrzL.nil | exact FrzR.nil | exact Qi rfl | exact FrzL.same (Ex.noOw _) | exact FrzL.same (St.noOw _) | refine FrzL.cons ?_ ?_ | refine FrzR.cons ?_ ?_ | refine FrzR.sl ?_
 ·simp only [Qcm, St.ok, Qdc, Ex.ok]
  refine ⟨⟨by simp, ⟨⟨fun h => by simp at h, trivial⟩, trivial⟩, trivial, trivial⟩, ⟨by simp, ⟨⟨fun h => by simp at h, trivial⟩, trivial⟩, Qade g8 ?_, trivial⟩, trivial⟩
  simp [Qcm, St.ok, Qdc, Ex.ok]
 ·simp only [Qv, St.size, Qgr, Qab, Ex.size]; omega
end Go.AE.Y

namespace Go.AE.Y
open Go.Proofs.Tryz
theorem Qbb6 {A L1 L2 : List (Nat × Obj)} : (A ++ L1 ++ L2).Perm (A ++ L2 ++ L1) := by
 rw [List.append_assoc, List.append_assoc]
 exact .append_left _ List.perm_append_comm
set_option maxHeartbeats 2000000 in
theorem Qa5f {d : Nat} (hB : ∀ d', d = d' + 1 → Q56 d') : Qa88 d := by
  intro R gl k s H K deep hd hR hG hne hs hF hk hK
  have hp0 : d < 10^d := Nat.lt_pow_self (by omega)
  have hex : ∃ e, 10^d = e ∧ ∀ d', d = d' + 1 → 10 * 10^d' = e := ⟨10^d, rfl, fun d' h => by rw [h, Nat.pow_succ]; omega⟩
  obtain ⟨e, hpe, he'⟩ := hex
  rw [hpe] at hp0 hk hK
  have hl0 := hs.l0
  have hl1 := hs.l1
  refine Q0 ?_
  refine Qb Qas Qam4 ?_
  refine Qa ?_
  simp only [go_sem, reduceIte, reduceEqDiff, reduceAdd, reduceLeDiff, reduceLT, reduceCtorEq]
  refine Qa ?_
  simp only [go_sem, hG, GS.o, reduceIte, reduceEqDiff, reduceAdd, reduceLeDiff, reduceLT, reduceCtorEq]
  refine ⟨Qn (by omega) (by omega), fun H1 h1 => ?_⟩
  have kn : Kn H H1 [(R.l, R.o k), (gl, GS.o { s with left := s.left - 1 } R)] [] := (Kn.start2 hR (R.o_ne k) hG (s.o_ne R) hne).stE 1 rfl h1
  have hs1 : GS.ok { s with left := s.left - 1 } (k + 1) := ⟨hs.n0, by have := hs.n1; show s.next ≤ _; omega, by show _ ≤ s.left - 1; omega, by show s.left - 1 ≤ 100; omega, by have := hs.v; show s.vars.length ≤ _; omega, hs.f, hs.fn⟩
  have hlr : s.left ≤ ({ s with left := s.left - 1 } : GS).left + 1 := by show s.left ≤ s.left - 1 + 1; omega
  have hfn : ({ s with left := s.left - 1 } : GS).fns = s.fns := rfl
  have hff : ({ s with left := s.left - 1 } : GS).ffl = s.ffl := rfl
  have hF1 : FnsOk H R gl { s with left := s.left - 1 } := ⟨hF.1, hF.2⟩
  generalize ({ s with left := s.left - 1 } : GS) = s1 at *
  have hG1 := kn.e 1 rfl
  refine Qa ?_
  simp only [go_sem, hG1, GS.o, reduceIte, reduceEqDiff, reduceAdd, reduceLeDiff, reduceLT, reduceCtorEq]
  refine Qa5 (kn.e 0 rfl) (by omega) fun v H2 hv hu => ?_
  have kn : Kn H H2 [(R.l, R.o (k + 1)), (gl, s1.o R)] [] := kn.callE 0 rfl hu (R.o_ne _)
  have hG2 := kn.e 1 rfl
  simp only [go_sem, Qp0, reduceIte, reduceEqDiff, reduceAdd, reduceLeDiff, reduceLT, reduceCtorEq]
  have fin : ∀ (l : List St) (c : C) (s' : GS) (H3 : Heap) (k3 : Nat) (L : List (Nat × Obj)), k < k3 → k3 ≤ k + 500 * e → Kn H H3 [(R.l, R.o k3), (gl, s'.o R)] L → FrzC H3 (un H) c (.sl false 5 (Qax l)) →
      s'.ok k3 → s1.left + 4 * ((k + 1 : Nat) : Int) ≤ s'.left + 4 * (k3 : Int) → s'.fns = s1.fns → s'.ffl = s1.ffl → l.length ≤ 2 → Qcm l → 4 * k + Qv l ≤ 4 * k3 → ∃ x', FrzV H3 (un H) (.c c) x' ∧ K x' (H3.frz (un H)) := by
    intro l c s' H3 k3 L g1 g2 kn g3 g4 g5 g6 g7 g8 g9 g10
    exact ⟨_, .c _ _ g3, hK l s' _ k3 g1 g2 kn.fin g4 (by omega) (g6.trans hfn) (g7.trans hff) g8 g9 g10⟩
  refine Qg (Qc ?_)
  refine Qa ?_
  simp only [go_sem, hG2, GS.o, Qao, reduceIte, reduceEqDiff, reduceAdd, reduceLeDiff, reduceLT, reduceCtorEq]
  intro hvl
  refine Qd rfl ?_ ?_
  ·
    intro hc
    have hv0 : 0 < s1.vars.length := by
      cases h : decide (v < 3) with
      | true => rw [h] at hc; simp at hc; omega
      | false => rw [h] at hc; simp at hc
    refine Qar ?_
    simp only [go_sem, hG2, GS.o, reduceIte, reduceEqDiff, reduceAdd, reduceLeDiff, reduceLT, reduceCtorEq]
    refine of_c (kn.e 0 rfl) (by omega) hv0 fun name H3 hn hu => ?_
    have kn := kn.callE 0 rfl hu (R.o_ne _)
    simp only [go_sem, Qp2, reduceIte, reduceEqDiff, reduceAdd, reduceLeDiff, reduceLT, reduceCtorEq]
    refine Qbw 3 (by omega) (kn.e 0 rfl) (kn.e 1 rfl) hne (hs1.mono (by omega)) (hF1.keep kn rfl rfl) (by omega) fun x H4 k4 g1 g2 hu g3 g4 => ?_
    have kn := kn.callE 0 rfl hu (R.o_ne _)
    simp only [go_sem, Qp1, x.cells_len, reduceIte, reduceEqDiff, reduceAdd, reduceLeDiff, reduceLT, reduceCtorEq]
    refine Qj ?_
    simp only [go_sem, Qz, Q9, Qa6, reduceIte, List.mem_singleton, forall_eq, RS.op, reduceIte, reduceEqDiff, reduceAdd, reduceLeDiff, reduceLT, reduceCtorEq]
    refine fin [St.mk 2 name [x] [] []] _ s1 H4 k4 _ (by omega) (by omega) kn ?_ (hs1.mono (by omega)) (by omega) rfl rfl (by simp) ?_ ?_
    · simp only [Qax, St.cells, Qbh]
      repeat' first | exact FrzL.nil | exact FrzR.nil | exact Qi rfl | exact FrzL.same (Ex.noOw _) | exact FrzL.same (St.noOw _) | refine FrzL.cons ?_ ?_ | refine FrzR.cons ?_ ?_ | refine FrzR.sl ?_
    · simp only [Qcm, St.ok, Qdc]; exact ⟨⟨by simp, ⟨g3, trivial⟩, trivial, trivial⟩, trivial⟩
    · simp only [Qv, St.size, Qab]; omega
  intro hc0
  refine Qa ?_
  simp only [go_sem, reduceIte, reduceEqDiff, reduceAdd, reduceLeDiff, reduceLT, reduceCtorEq]
  refine Qd rfl ?_ ?_
  ·
    intro hc
    refine Qa ?_
    simp only [go_sem, reduceIte, reduceEqDiff, reduceAdd, reduceLeDiff, reduceLT, reduceCtorEq]
    refine Qbw 3 (by omega) (kn.e 0 rfl) (kn.e 1 rfl) hne (hs1.mono (by omega)) (hF1.keep kn rfl rfl) (by omega) fun x H4 k4 g1 g2 hu g3 g4 => ?_
    have kn := kn.callE 0 rfl hu (R.o_ne _)
    simp only [go_sem, Qp4, x.cells_eq, reduceIte, reduceEqDiff, reduceAdd, reduceLeDiff, reduceLT, reduceCtorEq]
    refine Q61 (x := x) (kn.e 0 rfl) (kn.e 1 rfl) hne (hs1.mono (by omega)) (by omega) fun name H5 k5 g5 g6 hu => ?_
    have kn := kn.callEE 0 1 rfl rfl (by decide) hu (R.o_ne _) (GS.o_ne _ _)
    simp only [go_sem, Qp3, St.cells_len, reduceIte, reduceEqDiff, reduceAdd, reduceLeDiff, reduceLT, reduceCtorEq]
    refine Qj ?_
    simp only [go_sem, Qz, Q9, Qa6, reduceIte, List.mem_singleton, forall_eq, RS.op, reduceIte, reduceEqDiff, reduceAdd, reduceLeDiff, reduceLT, reduceCtorEq]
    have h0 := hs1.n0
    have h1 := hs1.n1
    have h2 := hs1.l0
    have h3 := hs1.v
    refine fin [St.mk 1 name [x] [] []] _ _ H5 k5 _ (by omega) (by omega) kn ?_ ⟨?_, ?_, ?_, hs1.l1, ?_, hs1.f, hs1.fn⟩ (by show _ ≤ s1.left + _; omega) rfl rfl (by simp) ?_ ?_
    · simp only [Qax]
      repeat' first | exact FrzL.nil | exact FrzR.nil | exact Qi rfl | exact FrzL.same (Ex.noOw _) | exact FrzL.same (St.noOw _) | refine FrzL.cons ?_ ?_ | refine FrzR.cons ?_ ?_ | refine FrzR.sl ?_
    · show -1 ≤ s1.next + 1; omega
    · show s1.next + 1 ≤ _; omega
    · show _ ≤ s1.left; omega
    · show (s1.vars ++ [name]).length ≤ _; simp; omega
    · simp only [Qcm, St.ok, Qdc]; exact ⟨⟨by simp, ⟨g3, trivial⟩, trivial, trivial⟩, trivial⟩
    · simp only [Qv, St.size, Qab]; omega
  intro hc1
  refine Qa ?_
  simp only [go_sem, reduceIte, reduceEqDiff, reduceAdd, reduceLeDiff, reduceLT, reduceCtorEq]
  refine Qd rfl ?_ ?_
  ·
    intro hc
    refine Qa ?_
    simp only [go_sem, reduceIte, reduceEqDiff, reduceAdd, reduceLeDiff, reduceLT, reduceCtorEq]
    refine Qbw 3 (by omega) (kn.e 0 rfl) (kn.e 1 rfl) hne (hs1.mono (by omega)) (hF1.keep kn rfl rfl) (by omega) fun x H4 k4 g1 g2 hu g3 g4 => ?_
    have kn := kn.callE 0 rfl hu (R.o_ne _)
    simp only [go_sem, Qp5, x.cells_len, reduceIte, reduceEqDiff, reduceAdd, reduceLeDiff, reduceLT, reduceCtorEq]
    refine Qj ?_
    simp only [go_sem, Qz, Q9, Qa6, reduceIte, List.mem_singleton, forall_eq, RS.op, reduceIte, reduceEqDiff, reduceAdd, reduceLeDiff, reduceLT, reduceCtorEq]
    refine fin [St.mk 3 [] [x] [] []] _ s1 H4 k4 _ (by omega) (by omega) kn ?_ (hs1.mono (by omega)) (by omega) rfl rfl (by simp) ?_ ?_
    · simp only [Qax, St.cells, Qbh]
      repeat' first | exact FrzL.nil | exact FrzR.nil | exact Qi rfl | exact FrzL.same (Ex.noOw _) | exact FrzL.same (St.noOw _) | refine FrzL.cons ?_ ?_ | refine FrzR.cons ?_ ?_ | refine FrzR.sl ?_
    · simp only [Qcm, St.ok, Qdc]; exact ⟨⟨by simp, ⟨g3, trivial⟩, trivial, trivial⟩, trivial⟩
    · simp only [Qv, St.size, Qab]; omega
  intro hc2
  have hdp : 2 ≤ deep := by
    cases h : decide (v < 7) with
    | true => rw [h] at hc2; simp at hc2
    | false => rw [h] at hc2; simp at hc2; omega
  obtain ⟨d', hdd⟩ : ∃ d', d = d' + 1 := ⟨d - 1, by omega⟩
  have hB0 : Q56 d' := hB d' hdd
  have hL0 : Qa86 d' := Qbad hB0
  have hB' := hB0
  have hL' := hL0
  simp only [Q56, Qa86] at hB' hL'
  have he1 := he' d' hdd
  have hp1 : d' < 10^d' := Nat.lt_pow_self (by omega)
  generalize 10^d' = e1 at *
  refine Qa ?_
  simp only [go_sem, reduceIte, reduceEqDiff, reduceAdd, reduceLeDiff, reduceLT, reduceCtorEq]
  refine Qd rfl ?_ ?_
  ·
    intro hc
    refine Qa ?_
    simp only [go_sem, reduceIte, reduceEqDiff, reduceAdd, reduceLeDiff, reduceLT, reduceCtorEq]
    refine Q07 (kn.e 0 rfl) (kn.e 1 rfl) hne (hs1.mono (by omega)) (hF1.keep kn rfl rfl) (by omega) fun x H4 k4 g1 g2 hu g3 g4 => ?_
    have kn := kn.callE 0 rfl hu (R.o_ne _)
    simp only [go_sem, Qp7, x.cells_len, reduceIte, reduceEqDiff, reduceAdd, reduceLeDiff, reduceLT, reduceCtorEq]
    refine Qbw 2 (by omega) (kn.e 0 rfl) (kn.e 1 rfl) hne (hs1.mono (by omega)) (hF1.keep kn rfl rfl) (by omega) fun y H5 k5 g5 g6 hu g7 g8 => ?_
    have kn := kn.callE 0 rfl hu (R.o_ne _)
    simp only [go_sem, Qp6, x.cells_len, y.cells_len, reduceIte, reduceEqDiff, reduceAdd, reduceLeDiff, reduceLT, reduceCtorEq]
    refine Qj ?_
    simp only [go_sem, Qz, Q9, Qa6, reduceIte, List.mem_singleton, forall_eq, RS.op, reduceIte, reduceEqDiff, reduceAdd, reduceLeDiff, reduceLT, reduceCtorEq]
    refine fin [St.mk 4 [] [x, y] [] []] _ s1 H5 k5 _ (by omega) (by omega) kn ?_ (hs1.mono (by omega)) (by omega) rfl rfl (by simp) ?_ ?_
    · simp only [Qax, St.cells, Qbh]
      repeat' first | exact FrzL.nil | exact FrzR.nil | exact Qi rfl | exact FrzL.same (Ex.noOw _) | exact FrzL.same (St.noOw _) | refine FrzL.cons ?_ ?_ | refine FrzR.cons ?_ ?_ | refine FrzR.sl ?_
    · simp only [Qcm, St.ok, Qdc]; exact ⟨⟨by simp, ⟨g3, g7, trivial⟩, trivial, trivial⟩, trivial⟩
    · simp only [Qv, St.size, Qab]; omega
  intro hc3
  refine Qa ?_
  simp only [go_sem, reduceIte, reduceEqDiff, reduceAdd, reduceLeDiff, reduceLT, reduceCtorEq]
  refine Qd rfl ?_ ?_
  ·
    intro hc
    refine Qa ?_
    simp only [go_sem, reduceIte, reduceEqDiff, reduceAdd, reduceLeDiff, reduceLT, reduceCtorEq]
    refine Q07 (kn.e 0 rfl) (kn.e 1 rfl) hne (hs1.mono (by omega)) (hF1.keep kn rfl rfl) (by omega) fun x H4 k4 g1 g2 hu g3 g4 => ?_
    have kn := kn.callE 0 rfl hu (R.o_ne _)
    simp only [go_sem, Qp8, x.cells_len, reduceIte, reduceEqDiff, reduceAdd, reduceLeDiff, reduceLT, reduceCtorEq]
    refine Qj ?_
    simp only [go_sem, Qz, Q9, Qa6, reduceIte, List.mem_singleton, forall_eq, RS.op, reduceIte, reduceEqDiff, reduceAdd, reduceLeDiff, reduceLT, reduceCtorEq]
    refine fin [St.mk 3 [] [Ex.mk 12 0 [] [x]] [] []] _ s1 H4 k4 _ (by omega) (by omega) kn ?_ (hs1.mono (by omega)) (by omega) rfl rfl (by simp) ?_ ?_
    · rw [Qax, Qax, St.cells, Qbh, Qbh, Ex.cells_eq (Ex.mk 12 0 [] _)]
      simp only [Qax, Qbh, Ex.kids, Ex.op, Ex.n, Ex.name]
      repeat' first | exact FrzL.nil | exact FrzR.nil | exact Qi rfl | exact FrzL.same (Ex.noOw _) | exact FrzL.same (St.noOw _) | refine FrzL.cons ?_ ?_ | refine FrzR.cons ?_ ?_ | refine FrzR.sl ?_
    · simp only [Qcm, St.ok, Qdc, Ex.ok]; exact ⟨⟨by simp, ⟨⟨fun h => by simp at h, g3, trivial⟩, trivial⟩, trivial, trivial⟩, trivial⟩
    · simp only [Qv, St.size, Qab, Ex.size]; omega
  intro hc4
  refine Qa ?_
  simp only [go_sem, reduceIte, reduceEqDiff, reduceAdd, reduceLeDiff, reduceLT, reduceCtorEq]
  refine Qd rfl ?_ ?_
  ·
    intro hc
    refine Qa ?_
    simp only [go_sem, reduceIte, reduceEqDiff, reduceAdd, reduceLeDiff, reduceLT, reduceCtorEq]
    refine Qbw 3 (by omega) (kn.e 0 rfl) (kn.e 1 rfl) hne (hs1.mono (by omega)) (hF1.keep kn rfl rfl) (by omega) fun x H4 k4 g1 g2 hu g3 g4 => ?_
    have kn := kn.callE 0 rfl hu (R.o_ne _)
    simp only [go_sem, Qmg, x.cells_len, reduceIte, reduceEqDiff, reduceAdd, reduceLeDiff, reduceLT, reduceCtorEq]
    refine ⟨Qn (by omega) (by omega), ?_⟩
    refine hB' _ _ _ _ _ _ (deep - 1) (by omega) (kn.e 0 rfl) (kn.e 1 rfl) hne (hs1.mono (by omega)) (hF1.keep kn rfl rfl) (by omega) fun b1 c1 L1 s2 H5 k5 g5 g6 hu hg1 hnew hs2 glf g7 g8 g9 g10 g11 => ?_
    have kn0 := kn
    have kn := kn.callEE 0 1 rfl rfl (by decide) hu (R.o_ne _) (GS.o_ne _ _)
    have kn := kn0.addGr kn rfl rfl hg1 hnew
    have hc1ow := hg1.isOw
    simp only [go_sem, Qmf, reduceIte, reduceEqDiff, reduceAdd, reduceLeDiff, reduceLT, reduceCtorEq]
    intro x6 hx6 H6 h6
    have kn := kn.al hx6 h6
    have kn := kn.perm (L' := [(x6, _)] ++ L1) List.perm_append_comm
    have hx66 := kn.l 0 rfl
    simp only [go_sem, Qp9, hx66, reduceIte, reduceEqDiff, reduceAdd, reduceLeDiff, reduceLT, reduceCtorEq]
    intro H7 h7
    have kn : Kn H H7 [(R.l, R.o k5), (gl, s2.o R)] ([(x6, _)] ++ L1) := kn.stL 0 rfl h7
    have hG7 := kn.e 1 rfl
    refine Q2 ?_
    refine Qa ?_
    simp only [go_sem, hG7, GS.o, reduceIte, reduceEqDiff, reduceAdd, reduceLeDiff, reduceLT, reduceCtorEq]
    refine Qa5 (kn.e 0 rfl) (by omega) fun v2 H8 hv2 hu => ?_
    have kn : Kn H H8 [(R.l, R.o (k5 + 1)), (gl, s2.o R)] ([(x6, _)] ++ L1) := kn.callE 0 rfl hu (R.o_ne _)
    simp only [go_sem, Qmh, reduceIte, reduceEqDiff, reduceAdd, reduceLeDiff, reduceLT, reduceCtorEq]
    have rest : ∀ (E1 : Env) (hE : lk 6 E1 = V.c (C.ptr x6 0)) (c2 : C) (b2 : List St) (L2 : List (Nat × Obj)) (s3 : GS) (H9 : Heap) (k6 : Nat), k5 + 1 ≤ k6 → k6 ≤ k5 + 1 + 2001 * e1 → Gr L2 5 (Qax b2) c2 →
        Kn H H9 [(R.l, R.o k6), (gl, s3.o R)] ([(x6, .st [.int .i64 5, .str [], .sl true 4 [x.cells], c1, c2])] ++ L1 ++ L2) → s3.ok k6 → s2.left + 4 * ((k5 + 1 : Nat) : Int) ≤ s3.left + 4 * (k6 : Int) → s3.fns = s2.fns → s3.ffl = s2.ffl → Qcm b2 → 4 * (k5 + 1) + Qv b2 ≤ 4 * k6 →
        Qae prog Qpy (X.inBlock 0 (X.sq prog Qgb (Qz Qa6 fun x H' => ∃ x', FrzV H' (un H) x x' ∧ K x' (H'.frz (un H))))) E1 H9 := by
      intro E1 hE c2 b2 L2 s3 H9 k6 e1 e2 hg2 kn e3 e4 e5 e6 e7 e8
      have hx69 := kn.l 0 rfl
      have hc2ow := hg2.isOw
      refine Qa ?_
      simp only [go_sem, hE, hx69, hc1ow, hc2ow, reduceIte, reduceEqDiff, reduceAdd, reduceLeDiff, reduceLT, reduceCtorEq]
      refine Qj ?_
      simp only [go_sem, Qz, Q9, Qa6, reduceIte, List.mem_singleton, forall_eq, RS.op, reduceIte, reduceEqDiff, reduceAdd, reduceLeDiff, reduceLT, reduceCtorEq]
      refine fin [St.mk 5 [] [x] b1 b2] _ s3 H9 k6 _ (by omega) (by omega) kn ?_ e3 (by omega) (e5.trans g7) (e6.trans g8) (by simp) ?_ ?_
      · simp only [Qax, St.cells, Qbh]
        repeat' first | exact FrzL.nil | exact FrzR.nil | exact Qi rfl | exact FrzL.same (Ex.noOw _) | exact FrzL.same (St.noOw _) | refine FrzL.cons ?_ ?_ | refine FrzR.cons ?_ ?_ | refine FrzR.sl ?_
        · exact hg1.frz (kn.perm Qbb6) (Qfl _)
        · exact hg2.frz kn (Qfl _)
      · simp only [Qcm, St.ok, Qdc]; exact ⟨⟨by simp, ⟨g3, trivial⟩, g10, e7⟩, trivial⟩
      · simp only [Qv, St.size, Qab]; omega
    refine Qg (Qd rfl ?_ ?_)
    · intro hc'
      refine Qp ?_
      simp only [go_sem, reduceIte, reduceEqDiff, reduceAdd, reduceLeDiff, reduceLT, reduceCtorEq]
      refine ⟨Qn (by omega) (by omega), ?_⟩
      refine hB' _ _ _ _ _ _ (deep - 1) (by omega) (kn.e 0 rfl) (kn.e 1 rfl) hne (hs2.mono (by omega)) (hF1.keep kn g7 g8) (by omega) fun b2 c2 L2 s3 H9 k6 q1 q2 hu hg2 hnew hs3 q3 q4 q5 q6 q7 q8 => ?_
      have kn0 := kn
      have kn := kn.callEE 0 1 rfl rfl (by decide) hu (R.o_ne _) (GS.o_ne _ _)
      have kn := kn0.addGr kn rfl rfl hg2 hnew
      have hx69 := kn.l 0 rfl
      simp only [go_sem, Qmi, hx69, reduceIte, reduceEqDiff, reduceAdd, reduceLeDiff, reduceLT, reduceCtorEq]
      intro H10 h10
      have kn : Kn H H10 [(R.l, R.o k6), (gl, s3.o R)] ([(x6, _)] ++ L1 ++ L2) := kn.stL 0 rfl h10
      exact rest _ (by simp [lk]) c2 b2 L2 s3 H10 k6 (by omega) (by omega) hg2 kn hs3 (by omega) q4 q5 q7 (by omega)
    · intro hc'
      refine Qf ?_
      simp only [go_sem]
      exact rest _ (by simp [lk]) _ [] [] s2 H8 (k5 + 1) (by omega) (by omega) (.nil 5) (by rw [List.append_nil]; exact kn) (hs2.mono (by omega)) (by omega) rfl rfl trivial (by simp only [Qv]; omega)
  · intro hc5
    refine Qa ?_
    simp only [go_sem, hG2, GS.o, reduceIte, reduceEqDiff, reduceAdd, reduceLeDiff, reduceLT, reduceCtorEq]
    have rest : ∀ (b : Bool) (H3 : Heap) (k3 : Nat), k + 1 ≤ k3 → k3 ≤ k + 2 → Kn H H3 [(R.l, R.o k3), (gl, s1.o R)] [] →
        Qae prog Qpz (X.inBlock 0 (X.sq prog Qgb (Qz Qa6 fun x H' => ∃ x', FrzV H' (un H) x x' ∧ K x' (H'.frz (un H)))))
         [(0, V.c (C.ptr gl 0)), (1, .c (.int .i64 deep)), (109, .c (.bool b))] H3 := by
      intro b H3 k3 e3 e4 kn
      refine Qd rfl ?_ ?_
      · intro hb
        refine Qa ?_
        simp only [go_sem, reduceIte, reduceEqDiff, reduceAdd, reduceLeDiff, reduceLT, reduceCtorEq]
        refine Qbw 2 (by omega) (kn.e 0 rfl) (kn.e 1 rfl) hne (hs1.mono (by omega)) (hF1.keep kn rfl rfl) (by omega) fun x H4 k4 g1 g2 hu g3 g4 => ?_
        have kn := kn.callE 0 rfl hu (R.o_ne _)
        simp only [go_sem, Qmj, x.cells_len, reduceIte, reduceEqDiff, reduceAdd, reduceLeDiff, reduceLT, reduceCtorEq]
        refine Qj ?_
        simp only [go_sem, Qz, Q9, Qa6, reduceIte, List.mem_singleton, forall_eq, RS.op, reduceIte, reduceEqDiff, reduceAdd, reduceLeDiff, reduceLT, reduceCtorEq]
        refine fin [St.mk 7 [] [x] [] []] _ s1 H4 k4 _ (by omega) (by omega) kn ?_ (hs1.mono (by omega)) (by omega) rfl rfl (by simp) ?_ ?_
        · simp only [Qax, St.cells, Qbh]
          repeat' first | exact FrzL.nil | exact FrzR.nil | exact Qi rfl | exact FrzL.same (Ex.noOw _) | exact FrzL.same (St.noOw _) | refine FrzL.cons ?_ ?_ | refine FrzR.cons ?_ ?_ | refine FrzR.sl ?_
        · simp only [Qcm, St.ok, Qdc]; exact ⟨⟨by simp, ⟨g3, trivial⟩, trivial, trivial⟩, trivial⟩
        · simp only [Qv, St.size, Qab]; omega
      · intro hb
        refine Qf ?_
        simp only [go_sem]
        refine Qa ?_
        simp only [go_sem, reduceIte, reduceEqDiff, reduceAdd, reduceLeDiff, reduceLT, reduceCtorEq]
        refine hL' _ _ _ _ _ _ deep (by omega) hdp (kn.e 0 rfl) (kn.e 1 rfl) hne (hs1.mono (by omega)) (hF1.keep kn rfl rfl) (by omega) fun l s2 H4 k4 g1 g2 hu g3 g4 g5 g6 g7 g8 g9 => ?_
        have kn := kn.callEE 0 1 rfl rfl (by decide) hu (R.o_ne _) (GS.o_ne _ _)
        simp only [go_sem, Qmk, reduceIte, reduceEqDiff, reduceAdd, reduceLeDiff, reduceLT, reduceCtorEq]
        refine Qj ?_
        simp only [go_sem, Qz, Q9, Qa6, reduceIte, List.mem_singleton, forall_eq, RS.op, reduceIte, reduceEqDiff, reduceAdd, reduceLeDiff, reduceLT, reduceCtorEq]
        exact fin l _ s2 H4 k4 _ (by omega) (by omega) kn (Qi rfl) g3 (by omega) g5 g6 g7 g8 (by omega)
    refine ⟨fun hb => ?_, fun hb => ?_⟩
    · refine Qa5 (kn.e 0 rfl) (by omega) fun v2 H3 hv2 hu => ?_
      have kn := kn.callE 0 rfl hu (R.o_ne _)
      simp only [go_sem, Qer, reduceIte, reduceEqDiff, reduceAdd, reduceLeDiff, reduceLT, reduceCtorEq]
      exact rest _ H3 (k + 1 + 1) (by omega) (by omega) kn
    · simp only [go_sem, Qer, hb, reduceIte, reduceEqDiff, reduceAdd, reduceLeDiff, reduceLT, reduceCtorEq]
      exact rest _ H2 (k + 1) (by omega) (by omega) kn
theorem Qa9g (d : Nat) : Q56 d := by
 induction d with
 | zero => exact Qaxm (Qa5f (fun d' h => absurd h (by omega)))
 | succ d ih => exact Qaxm (Qa5f (fun d' h => by
   have : d' = d := by omega
   rw [this]; exact ih))
end Go.AE.Y

namespace Go.AE.Y
open Go.Proofs.Tryz
set_option maxHeartbeats 1000000 in
theorem Qahu {R : Rdr} {gl k : Nat} {s : GS} {name : List UInt8} {params : Int} {H : Heap} {K : V → Heap → Prop} (hp0 : 0 ≤ params) (hp3 : params ≤ 3) (hR : H R.l = R.o k) (hG : H gl = s.o R) (hne : R.l ≠ gl) (hs : s.ok k) (hF : FnsOk H R gl s) (hk : k + 2001300 ≤ 2^30)
  (hK : ∀ (f : Fn) (s' : GS) (H' : Heap) (k' : Nat), k < k' → k' ≤ k + 2001300 → Upd H H' [(R.l, R.o k'), (gl, s'.o R)] → s'.ok k' → s'.fns = s.fns → s'.ffl = s.ffl → f.params.length ≤ 3 → Qcm f.body → 4 * k + Qv f.body ≤ 4 * k' → K (.ag f.cells) H') :
  Qo prog Qko [.c (.ptr gl 0), .c (.str name), .c (.int .i64 params)] H K := by
 obtain ⟨np, rfl⟩ := Int.eq_ofNat_of_zero_le hp0
 refine Q0 ?_
 refine Qb Qas Qazc ?_
 refine Qa ?_
 simp only [go_sem, reduceIte, reduceEqDiff, reduceAdd, reduceLeDiff, reduceLT, reduceCtorEq]
 intro x6 hx6 H1 h1
 have kn := (Kn.start2 hR (R.o_ne k) hG (s.o_ne R) hne).al hx6 h1
 have hG1 := kn.e 1 rfl
 refine Qa ?_
 have etk : List.take np [[C.str [97]], [C.str [98]], [C.str [99]]] = Qbd (List.take np [[97], [98], [99]]) := by simp [Qbd, List.map_take]
 simp only [go_sem, hG1, GS.o, etk, reduceIte, reduceEqDiff, reduceAdd, reduceLeDiff, reduceLT, reduceCtorEq]
 refine ⟨⟨by omega, by omega⟩, fun H2 h2 => ?_⟩
 have kn : Kn H H2 [(R.l, R.o k), (gl, GS.o { s with vars := List.take np [[97], [98], [99]], vfl := false } R)] [(x6, _)] := kn.stE 1 rfl h2
 have hG2 := kn.e 1 rfl
 refine Qa ?_
 simp only [go_sem, hG2, GS.o, reduceIte, reduceEqDiff, reduceAdd, reduceLeDiff, reduceLT, reduceCtorEq]
 refine ⟨Qn (by omega) (by omega), fun H3 h3 => ?_⟩
 have kn : Kn H H3 [(R.l, R.o k), (gl, GS.o { s with vars := List.take np [[97], [98], [99]], vfl := false, next := (np : Int) - 1 } R)] [(x6, _)] := kn.stE 1 rfl h3
 have hs1 : GS.ok { s with vars := List.take np [[97], [98], [99]], vfl := false, next := (np : Int) - 1 } k :=
  ⟨by show -1 ≤ (np : Int) - 1; omega, by show (np : Int) - 1 ≤ _; omega, hs.l0, hs.l1, by show (List.take np _).length ≤ _; simp; omega, hs.f, hs.fn⟩
 have hvl : (List.take np [[97], [98], [99]] : List (List UInt8)).length ≤ 3 := by simp; omega
 have hfn : GS.fns { s with vars := List.take np [[97], [98], [99]], vfl := false, next := (np : Int) - 1 } = s.fns := rfl
 have hff : GS.ffl { s with vars := List.take np [[97], [98], [99]], vfl := false, next := (np : Int) - 1 } = s.ffl := rfl
 have hvv : GS.vars { s with vars := List.take np [[97], [98], [99]], vfl := false, next := (np : Int) - 1 } = List.take np [[97], [98], [99]] := rfl
 rw [← hvv] at hvl
 have hF1 : FnsOk H R gl { s with vars := List.take np [[97], [98], [99]], vfl := false, next := (np : Int) - 1 } := ⟨hF.1, hF.2⟩
 generalize ({ s with vars := List.take np [[97], [98], [99]], vfl := false, next := (np : Int) - 1 } : GS) = s1 at *
 have hG3 := kn.e 1 rfl
 refine Qa ?_
 have hL : s1.vars.length ≤ LIM := by simp only [LIM]; omega
 simp only [go_sem, hG3, GS.o, Qao, Nat.zero_add, List.nil_append, hL, reduceIte, reduceEqDiff, reduceAdd, reduceLeDiff, reduceLT, reduceCtorEq]
 refine ⟨.inl trivial, Qlm _, fun y hy H4 h4 => ?_⟩
 have kn := kn.al hy h4
 simp only [go_sem, Qv4, reduceIte, reduceEqDiff, reduceAdd, reduceLeDiff, reduceLT, reduceCtorEq]
 intro x7 hx7 H5 h5
 have kn := kn.al hx7 h5
 have hx75 := kn.l 2 rfl
 simp only [go_sem, Qv3, hx75, reduceIte, reduceEqDiff, reduceAdd, reduceLeDiff, reduceLT, reduceCtorEq]
 intro H6 h6
 have kn : Kn H H6 [(R.l, R.o k), (gl, s1.o R)] [(x6, _), (y, _), (x7, _)] := kn.stL 2 rfl h6
 refine Qa ?_
 simp only [go_sem, reduceIte, reduceEqDiff, reduceAdd, reduceLeDiff, reduceLT, reduceCtorEq]
 refine Qa9g 3 _ _ _ _ _ _ 3 (by omega) (kn.e 0 rfl) (kn.e 1 rfl) hne hs1 (hF1.keep kn rfl rfl) (by omega) fun l c Lg s2 H7 k2 g1 g2 hu hgr hnew hs2 glf g3 g4 g5 g6 g7 => ?_
 have kn0 := kn
 have kn := kn.callEE 0 1 rfl rfl (by decide) hu (R.o_ne _) (GS.o_ne _ _)
 have kn := kn0.addGr kn rfl rfl hgr hnew
 have hx77 := kn.l 2 rfl
 simp only [go_sem, Qv5, hx77, reduceIte, reduceEqDiff, reduceAdd, reduceLeDiff, reduceLT, reduceCtorEq]
 intro H8 h8
 have kn : Kn H H8 [(R.l, R.o k2), (gl, s2.o R)] ([(x6, .st [.str [], .sl true 1 [], .sl true 5 []]), (y, .vec 1 (Qbd s1.vars)), (x7, .st [.str name, .vsl y 1 0 s1.vars.length, c])] ++ Lg) := kn.stL 2 rfl h8
 have hG8 := kn.e 1 rfl
 refine Q2 ?_
 refine Qa ?_
 simp only [go_sem, hG8, GS.o, reduceIte, reduceEqDiff, reduceAdd, reduceLeDiff, reduceLT, reduceCtorEq]
 have hcow := hgr.isOw
 have rest : ∀ (E1 : Env) (hE6 : lk 6 E1 = V.c (C.ptr x6 0)) (hE7 : lk 7 E1 = V.c (C.ptr x7 0)) (l2 : List St) (c2 : C) (rws : List (List C)) (L2 : List (Nat × Obj)) (s3 : GS) (H9 : Heap) (k3 : Nat), k < k3 → k3 ≤ k + 2001300 →
   Kn H H9 [(R.l, R.o k3), (gl, s3.o R)] ([(x6, .st [.str [], .sl true 1 [], .sl true 5 []]), (y, .vec 1 (Qbd s1.vars)), (x7, .st [.str name, .vsl y 1 0 s1.vars.length, c2])] ++ L2) → Gr L2 5 rws c2 → (∀ H', FrzR H' (un H) rws (Qax l2)) →
   s3.ok k3 → s3.fns = s1.fns → s3.ffl = s1.ffl → Qcm l2 → 4 * k + Qv l2 ≤ 4 * k3 → Qae prog Qpq (Qz Qrg fun x H' => ∃ x', FrzV H' (un H) x x' ∧ K x' (H'.frz (un H))) E1 H9 := by
  intro E1 hE6 hE7 l2 c2 rws L2 s3 H9 k3 e1 e2 kn hg2 hfr e3 e4 e5 e6 e7
  have hx69 := kn.l 0 rfl
  have hx79 := kn.l 2 rfl
  have hcow := hg2.isOw
  refine Qa ?_
  simp only [go_sem, hE6, hE7, hx69, hx79, hcow, reduceIte, reduceEqDiff, reduceAdd, reduceLeDiff, reduceLT, reduceCtorEq]
  intro H10 h10
  have kn := kn.stL 0 rfl h10
  have hx6a := kn.l 0 rfl
  have hya := kn.l 1 rfl
  refine Qj ?_
  simp only [go_sem, Qz, Q9, Qrg, reduceIte, List.mem_singleton, forall_eq, RS.op, hx6a, hcow, reduceIte, reduceEqDiff, reduceAdd, reduceLeDiff, reduceLT, reduceCtorEq]
  refine ⟨(.ag (Fn.mk name s1.vars l2).cells), ?_, hK _ s3 _ k3 e1 e2 kn.fin e3 (e4.trans hfn) (e5.trans hff) hvl e6 e7⟩
  refine FrzL.ag (.cons (Qi rfl) (.cons ?_ (.cons ?_ .nil)))
  ·exact Qai3 (kn.un 1 rfl) hya (by simp [Qbd]) (Qg4 (Qlm _))
  ·exact hg2.frzR (B := [_, _, _]) kn (hfr _)
 have tl : ∀ (b : Bool) (H9 : Heap) (k3 : Nat), k2 ≤ k3 → k3 ≤ k2 + 1 → (b = true → 0 < s2.left) → Kn H H9 [(R.l, R.o k3), (gl, s2.o R)] ([(x6, .st [.str [], .sl true 1 [], .sl true 5 []]), (y, .vec 1 (Qbd s1.vars)), (x7, .st [.str name, .vsl y 1 0 s1.vars.length, c])] ++ Lg) →
   Qae prog (s_l3Gen_fn_7.seq Qpq) (Qz Qrg fun x H' => ∃ x', FrzV H' (un H) x x' ∧ K x' (H'.frz (un H))) [(0, V.c (C.ptr gl 0)), (6, V.c (C.ptr x6 0)), (7, V.c (C.ptr x7 0)), (42, .c (.bool b))] H9 := by
  intro b H9 k3 e1 e2 hb kn
  have hG9 := kn.e 1 rfl
  refine Qg (Qd rfl ?_ ?_)
  ·intro hc
   have hlp := hb hc
   have hl1 := hs2.l1
   refine Qa ?_
   simp only [go_sem, hG9, GS.o, reduceIte, reduceEqDiff, reduceAdd, reduceLeDiff, reduceLT, reduceCtorEq]
   refine ⟨Qn (by omega) (by omega), fun H10 h10 => ?_⟩
   have kn : Kn H H10 [(R.l, R.o k3), (gl, GS.o { s2 with left := s2.left - 1 } R)] ([(x6, _), (y, _), (x7, _)] ++ Lg) := kn.stE 1 rfl h10
   have hs3 : GS.ok { s2 with left := s2.left - 1 } k3 := ⟨hs2.n0, by have := hs2.n1; show s2.next ≤ _; omega, by show _ ≤ s2.left - 1; omega, by show s2.left - 1 ≤ 100; omega, by have := hs2.v; show s2.vars.length ≤ _; omega, hs2.f, hs2.fn⟩
   have hx7a := kn.l 2 rfl
   refine Qb4 ?_
   simp only [go_sem, hx7a, hcow, reduceIte, reduceEqDiff, reduceAdd, reduceLeDiff, reduceLT, reduceCtorEq]
   refine Qbw 2 (by omega) (kn.e 0 rfl) (kn.e 1 rfl) hne hs3 (hF1.keep kn g3 g4) (by omega) fun x H11 k4 q1 q2 hu q3 q4 => ?_
   have kn := kn.callE 0 rfl hu (R.o_ne _)
   have hx7b := kn.l 2 rfl
   simp only [go_sem, Qv7, hx7b, hcow, x.cells_len, reduceIte, reduceEqDiff, reduceAdd, reduceLeDiff, reduceLT, reduceCtorEq]
   refine kn.grow (B := [_, _, _]) hgr (.mk' _ _ _ _) (by intro r hr; simp only [List.mem_singleton] at hr; subst hr; rfl) (by simp only [Qa3, LIM, List.length_cons, List.length_nil]; omega) fun y' H12 kn => ?_
   have hx7c := kn.l 2 rfl
   simp only [go_sem, Qv6, hx7c, reduceIte, reduceEqDiff, reduceAdd, reduceLeDiff, reduceLT, reduceCtorEq]
   intro H13 h13
   have kn := kn.stL 2 rfl h13
   refine rest _ (by simp [lk]) (by simp [lk]) (l ++ [St.mk 7 [] [x] [] []]) _ _ _ _ H13 k4 (by omega) (by omega) kn (.mk _ _ _ (by simp [Qa3])) (fun H' => ?_) (hs3.mono (by omega)) g3 g4 (Qade g6 ?_) ?_
   ·rw [← Qadd]
    refine .app (.same (Qfl _)) ?_
    simp only [Qax, St.cells, Qbh]
    repeat' first | exact FrzL.nil | exact FrzR.nil | exact Qi rfl | exact FrzL.same (Ex.noOw _) | exact FrzL.same (St.noOw _) | refine FrzL.cons ?_ ?_ | refine FrzR.cons ?_ ?_ | refine FrzR.sl ?_
   ·simp only [Qcm, St.ok, Qdc]; exact ⟨⟨by simp, ⟨q3, trivial⟩, trivial, trivial⟩, trivial⟩
   ·simp only [Qgr, Qv, St.size, Qab]; omega
  ·intro hc
   refine Qf ?_
   simp only [go_sem]
   exact rest _ (by simp [lk]) (by simp [lk]) l c _ Lg s2 H9 k3 (by omega) (by omega) kn hgr (fun H' => .same (Qfl _)) (hs2.mono (by omega)) g3 g4 g6 (by omega)
 refine ⟨fun hb => ?_, fun hb => ?_⟩
 ·refine Qa5 (kn.e 0 rfl) (by omega) fun v H9 hv hu => ?_
  have kn := kn.callE 0 rfl hu (R.o_ne _)
  simp only [go_sem, Qld, hb, reduceIte, reduceEqDiff, reduceAdd, reduceLeDiff, reduceLT, reduceCtorEq]
  exact tl _ H9 (k2 + 1) (by omega) (by omega) (fun _ => by simpa using hb) kn
 ·simp only [go_sem, Qld, hb, reduceIte, reduceEqDiff, reduceAdd, reduceLeDiff, reduceLT, reduceCtorEq]
  exact tl false H8 k2 (by omega) (by omega) (fun h => by simp at h) kn
end Go.AE.Y

namespace Go.AE.Y
open Go.Proofs.Tryz
variable {H : Heap} {K : V → Heap → Prop}
theorem Qog {l : List Ex} {i : Nat} (h : i < l.length) : Qab (l.take (i + 1)) = Qab (l.take i) + (l[i]'h).size := by
 rw [List.take_succ_eq_append_getElem h, Qs8]; simp [Qab]
theorem Qq6 {l : List St} {i : Nat} (h : i < l.length) : Qv (l.take (i + 1)) = Qv (l.take i) + (l[i]'h).size := by
 rw [List.take_succ_eq_append_getElem h, Qgr]; simp [Qv]
theorem Qfm (l : List Ex) (i : Nat) : Qab (l.take i) ≤ Qab l := by
 conv => rhs; rw [← List.take_append_drop i l, Qs8]
 omega
theorem Qgs (l : List St) (i : Nat) : Qv (l.take i) ≤ Qv l := by
 conv => rhs; rw [← List.take_append_drop i l, Qgr]
 omega
theorem St.size_pos (x : St) : 1 ≤ x.size := by rw [x.size_eq]; omega
theorem Qadf (l : List St) : l.length ≤ Qv l := by
 induction l with
 | nil => simp
 | cons x r ih => simp only [List.length_cons, Qv]; have := x.size_pos; omega
theorem Qa2t : ∀ (n : Nat) (x : Ex) {H : Heap} {K : V → Heap → Prop}, x.size ≤ n → x.size ≤ 2^40 → K (.c (.int .i64 x.size)) H → Qo prog Qrc [.ag x.cells] H K := by
 intro n
 induction n with
 | zero => intro x _ _ h; have := x.size_pos; omega
 | succ n ih =>
 intro x H K hn hb hK
 have hsz := x.size_kids
 refine Qb Qas Qa3a ?_
 refine Qa ?_
 simp only [go_sem, x.cells_eq, reduceIte, reduceEqDiff, reduceAdd, reduceLeDiff, reduceLT, reduceCtorEq]
 refine Qa ?_
 simp only [go_sem, reduceIte, reduceEqDiff, reduceAdd, reduceLeDiff, reduceLT, reduceCtorEq]
 refine Q2 ?_
 refine Qa ?_
 simp only [go_sem, reduceIte, reduceEqDiff, reduceAdd, reduceLeDiff, reduceLT, reduceCtorEq]
 refine Qg (Qc (Qt (fun n e1 H1 => ∃ i : Nat, n = x.kids.length - i ∧ i ≤ x.kids.length ∧ H1 = H ∧ e1 = [(1, .c (.pp [.int .i64 x.op, .int .i64 x.n, .str x.name, .sl false 4 (Qbh x.kids)])), (3, .c (.int .i64 ((1 + Qab (x.kids.take i) : Nat) : Int))), (4, .c (.int .i64 i))]) x.kids.length ?_ ?_))
 ·exact ⟨0, by omega, by omega, rfl, by simp [Qab]⟩
 ·rintro n e1 H1 ⟨i, hn, hi, rfl, rfl⟩
  refine Q2 ?_
  refine Qa ?_
  simp only [go_sem, Qaz, reduceIte, reduceEqDiff, reduceAdd, reduceLeDiff, reduceLT, reduceCtorEq]
  intro hl
  simp only [LIM] at hl
  refine Qg (Qd rfl ?_ ?_)
  ·intro hc
   have hlt : i < x.kids.length := by simpa using hc
   have hm := Qdz (List.getElem_mem hlt)
   have htk := Qog hlt
   have htl := Qfm x.kids (i + 1)
   refine Qf ?_
   simp only [go_sem]
   refine Qg (Qc (Qp ?_))
   simp only [go_sem, hlt, Qaz, Qdy _ _ hlt, Ex.take4, Ex.allOw, Ex.cells_len, reduceIte, reduceEqDiff, reduceAdd, reduceLeDiff, reduceLT, reduceCtorEq]
   refine ih _ (by omega) (by omega) ?_
   simp only [go_sem, Q17, reduceIte, reduceEqDiff, reduceAdd, reduceLeDiff, reduceLT, reduceCtorEq]
   refine ⟨Qn (by omega) (by omega), ?_⟩
   refine Qp ?_
   simp only [go_sem, X.next, reduceIte, reduceEqDiff, reduceAdd, reduceLeDiff, reduceLT, reduceCtorEq]
   refine ⟨Qn (by omega) (by omega), x.kids.length - (i + 1), by omega, i + 1, rfl, by omega, ?_⟩
   rw [htk]; simp; omega
  ·intro hc
   have hge : x.kids.length ≤ i := by simpa using hc
   refine Qs ?_
   simp only [go_sem, X.next]
   refine Qa ?_
   simp only [go_sem, reduceIte, reduceEqDiff, reduceAdd, reduceLeDiff, reduceLT, reduceCtorEq]
   refine Qj ?_
   simp only [go_sem, Qz, Q9, Qanm, reduceIte, List.mem_singleton, forall_eq, RS.op, reduceIte, reduceEqDiff, reduceAdd, reduceLeDiff, reduceLT, reduceCtorEq]
   rw [List.take_of_length_le hge, ← hsz]; exact hK
theorem Qa6n : ∀ (n : Nat) (x : Ex) {H : Heap} {K : V → Heap → Prop} (deep : Int), x.size ≤ n → deep ≤ 100 → (∀ b : Bool, K (.c (.bool b)) H) → Qo prog Quo [.ag x.cells, .c (.int .i64 deep)] H K := by
 intro n
 induction n with
 | zero => intro x _ _ _ h; have := x.size_pos; omega
 | succ n ih =>
 intro x H K deep hn hd hK
 have hsz := x.size_kids
 refine Qb Qas Qa63 ?_
 refine Qa ?_
 simp only [go_sem, x.cells_eq, reduceIte, reduceEqDiff, reduceAdd, reduceLeDiff, reduceLT, reduceCtorEq]
 refine Qa ?_
 simp only [go_sem, reduceIte, reduceEqDiff, reduceAdd, reduceLeDiff, reduceLT, reduceCtorEq]
 refine Qa6o fun lo hi => ?_
 simp only [go_sem, Q8z, List.getD_cons_zero, List.getD_cons_succ, reduceIte, reduceEqDiff, reduceAdd, reduceLeDiff, reduceLT, reduceCtorEq]
 refine Q2 ?_
 refine Qa ?_
 simp only [go_sem, reduceIte, reduceEqDiff, reduceAdd, reduceLeDiff, reduceLT, reduceCtorEq]
 have retf : ∀ (b : Bool) (e : Env), lk 4 e = .c (.bool b) → Qz Qu5 K .ret e H := by
  intro b e h1
  simp only [go_sem, Qz, Q9, Qu5, List.mem_singleton, forall_eq, RS.op, h1, reduceIte, reduceEqDiff, reduceAdd, reduceLeDiff, reduceLT, reduceCtorEq]
  exact hK _
 have rest : ∀ b : Bool, (b = false → 1 ≤ deep) → Qae prog (s_l2Form_3.seq Q8y) (Qz Qu5 K)
   [(1, .c (.int .i64 deep)), (2, .c (.pp [.int .i64 x.op, .int .i64 x.n, .str x.name, .sl false 4 (Qbh x.kids)])), (31, .c (.bool b))] H := by
  intro b hb
  refine Qg (Qd rfl ?_ ?_)
  ·intro hc
   refine Qa ?_
   simp only [go_sem, reduceIte, reduceEqDiff, reduceAdd, reduceLeDiff, reduceLT, reduceCtorEq]
   refine Qj ?_
   simp only [go_sem]
   exact retf false _ (by simp [lk])
  intro hc
  have hdp := hb hc
  refine Qf ?_
  simp only [go_sem]
  refine Qa ?_
  simp only [go_sem, reduceIte, reduceEqDiff, reduceAdd, reduceLeDiff, reduceLT, reduceCtorEq]
  refine Q2 ?_
  refine Qa ?_
  simp only [go_sem, reduceIte, reduceEqDiff, reduceAdd, reduceLeDiff, reduceLT, reduceCtorEq]
  refine Q5q fun b1 => ?_
  simp only [go_sem, Q80, reduceIte, reduceEqDiff, reduceAdd, reduceLeDiff, reduceLT, reduceCtorEq]
  have rest2 : ∀ b : Bool, Qae prog (s_l2Form_6.seq Q8x) (Qz Qu5 K)
    [(1, .c (.int .i64 deep)), (2, .c (.pp [.int .i64 x.op, .int .i64 x.n, .str x.name, .sl false 4 (Qbh x.kids)])), (69, .c (.bool b))] H := by
   intro b
   refine Qg (Qd rfl ?_ ?_)
   ·intro hc
    refine Qa ?_
    simp only [go_sem, reduceIte, reduceEqDiff, reduceAdd, reduceLeDiff, reduceLT, reduceCtorEq]
    refine Qj ?_
    simp only [go_sem]
    exact retf false _ (by simp [lk])
   intro hc
   refine Qf ?_
   simp only [go_sem]
   refine Q2 ?_
   refine Qa ?_
   simp only [go_sem, reduceIte, reduceEqDiff, reduceAdd, reduceLeDiff, reduceLT, reduceCtorEq]
   refine Qg (Qc (Qt (fun n e1 H1 => ∃ i : Nat, n = x.kids.length - i ∧ i ≤ x.kids.length ∧ H1 = H ∧ e1 = [(1, .c (.int .i64 deep)), (2, .c (.pp [.int .i64 x.op, .int .i64 x.n, .str x.name, .sl false 4 (Qbh x.kids)])), (8, .c (.int .i64 i))]) x.kids.length ?_ ?_))
   ·exact ⟨0, by omega, by omega, rfl, rfl⟩
   ·rintro n e1 H1 ⟨i, hn, hi, rfl, rfl⟩
    refine Q2 ?_
    refine Qa ?_
    simp only [go_sem, Qaz, reduceIte, reduceEqDiff, reduceAdd, reduceLeDiff, reduceLT, reduceCtorEq]
    intro hl
    simp only [LIM] at hl
    refine Qg (Qd rfl ?_ ?_)
    ·intro hc
     have hlt : i < x.kids.length := by simpa using hc
     have hm := Qdz (List.getElem_mem hlt)
     refine Qf ?_
     simp only [go_sem]
     refine Qg (Qc ?_)
     refine Qa ?_
     simp only [go_sem, hlt, Qaz, Qdy _ _ hlt, Ex.take4, Ex.allOw, Ex.cells_len, reduceIte, reduceEqDiff, reduceAdd, reduceLeDiff, reduceLT, reduceCtorEq]
     refine ⟨Qn (by omega) (by omega), ?_⟩
     refine ih _ (deep - 1) (by omega) (by omega) fun b2 => ?_
     simp only [go_sem, Q81, reduceIte, reduceEqDiff, reduceAdd, reduceLeDiff, reduceLT, reduceCtorEq]
     refine Qd rfl ?_ ?_
     ·intro hc2
      refine Qa ?_
      simp only [go_sem, reduceIte, reduceEqDiff, reduceAdd, reduceLeDiff, reduceLT, reduceCtorEq]
      refine Qj ?_
      simp only [go_sem, X.next]
      exact retf false _ (by simp [lk])
     ·intro hc2
      refine Qf ?_
      simp only [go_sem]
      refine Qp ?_
      simp only [go_sem, X.next, reduceIte, reduceEqDiff, reduceAdd, reduceLeDiff, reduceLT, reduceCtorEq]
      exact ⟨Qn (by omega) (by omega), x.kids.length - (i + 1), by omega, i + 1, rfl, by omega, rfl⟩
    ·intro hc
     refine Qs ?_
     simp only [go_sem, X.next]
     refine Qa ?_
     simp only [go_sem, reduceIte, reduceEqDiff, reduceAdd, reduceLeDiff, reduceLT, reduceCtorEq]
     refine Qj ?_
     exact retf true _ (by simp [lk])
  refine ⟨fun hb1 => ?_, fun hb1 => ?_⟩
  ·refine Qc6 ?_
   simp only [go_sem, Qty, reduceIte, reduceEqDiff, reduceAdd, reduceLeDiff, reduceLT, reduceCtorEq]
   exact rest2 _
  ·replace hb1 := Qeq hb1
   simp only [go_sem, Qty, hb1, reduceIte, reduceEqDiff, reduceAdd, reduceLeDiff, reduceLT, reduceCtorEq]
   exact rest2 _
 refine ⟨fun hb1 => ?_, fun hb1 => ?_⟩
 ·replace hb1 := Qnl hb1
  have hdp : 1 ≤ deep := by simp at hb1; omega
  refine Qc6 ?_
  simp only [go_sem, Qtx, hb1, Qaz, cond_false, reduceIte, reduceEqDiff, reduceAdd, reduceLeDiff, reduceLT, reduceCtorEq]
  intro hl
  refine ⟨fun hb2 => ?_, fun hb2 => ?_⟩
  ·refine Qc6 ?_
   simp only [go_sem, Qlc, reduceIte, reduceEqDiff, reduceAdd, reduceLeDiff, reduceLT, reduceCtorEq]
   exact rest _ (fun _ => hdp)
  ·replace hb2 := Qeq hb2
   simp only [go_sem, Qlc, hb2, reduceIte, reduceEqDiff, reduceAdd, reduceLeDiff, reduceLT, reduceCtorEq]
   exact rest _ (fun _ => hdp)
 ·replace hb1 := Qeq hb1
  simp only [go_sem, Qtx, Qlc, hb1, Qaz, cond_true, reduceIte, reduceEqDiff, reduceAdd, reduceLeDiff, reduceLT, reduceCtorEq]
  exact rest _ (fun h => by simp at h)
theorem Qaq2 {x : Ex} (hx : x.size ≤ 2^40) (hK : ∀ b : Bool, K (.c (.bool b)) H) : Qo prog Qfx [.ag x.cells] H K := by
 refine Qb Qas Qady ?_
 refine Qa ?_
 simp only [go_sem, Ex.ne_nil, reduceIte, reduceEqDiff, reduceAdd, reduceLeDiff, reduceLT, reduceCtorEq]
 refine Qa ?_
 simp only [go_sem, Ex.take4, Ex.allOw, Ex.cells_len, reduceIte, reduceEqDiff, reduceAdd, reduceLeDiff, reduceLT, reduceCtorEq]
 refine Qa6n x.size x 6 (Nat.le_refl _) (by omega) fun b => ?_
 simp only [go_sem, Qj7, Ex.take4, Ex.allOw, Ex.cells_len, reduceIte, reduceEqDiff, reduceAdd, reduceLeDiff, reduceLT, reduceCtorEq]
 refine ⟨fun hb => ?_, fun hb => ?_⟩
 ·refine Qa2t x.size x (Nat.le_refl _) hx ?_
  simp only [go_sem, Qd5, reduceIte, reduceEqDiff, reduceAdd, reduceLeDiff, reduceLT, reduceCtorEq]
  refine Qj ?_
  simp only [go_sem, Qz, Q9, Qil, reduceIte, List.mem_singleton, forall_eq, RS.op, reduceIte, reduceEqDiff, reduceAdd, reduceLeDiff, reduceLT, reduceCtorEq]
  exact hK _
 ·simp only [go_sem, Qd5, hb, reduceIte, reduceEqDiff, reduceAdd, reduceLeDiff, reduceLT, reduceCtorEq]
  refine Qj ?_
  simp only [go_sem, Qz, Q9, Qil, reduceIte, List.mem_singleton, forall_eq, RS.op, reduceIte, reduceEqDiff, reduceAdd, reduceLeDiff, reduceLT, reduceCtorEq]
  exact hK _
end Go.AE.Y

namespace Go.AE.Y
open Go.Proofs.Tryz
variable {H : Heap} {K : V → Heap → Prop}
def St.raw (x : St) : List C := [.int .i64 x.op, .str x.name, .sl false 4 (Qbh x.args), .sl false 5 (Qax x.body), .sl false 5 (Qax x.els)]
theorem Qa2v : ∀ (n : Nat) (l : List St) {fl : Bool} {H : Heap} {K : V → Heap → Prop}, Qv l ≤ n → Qv l ≤ 2^40 → (∀ v : Nat, v ≤ Qv l → K (.c (.int .i64 v)) H) → Qo prog Qi6 [.c (.sl fl 5 (Qax l))] H K := by
 intro n
 induction n using Nat.strongRecOn with
 | ind n ih =>
 intro l fl H K hn hb hK
 have hlen := Qadf l
 refine Qb Qas Qa3d ?_
 refine Qa ?_
 simp only [go_sem, reduceIte, reduceEqDiff, reduceAdd, reduceLeDiff, reduceLT, reduceCtorEq]
 refine Qa ?_
 simp only [go_sem, Qa3, reduceIte, reduceEqDiff, reduceAdd, reduceLeDiff, reduceLT, reduceCtorEq]
 intro hl
 refine Q2 ?_
 refine Qa ?_
 simp only [go_sem, reduceIte, reduceEqDiff, reduceAdd, reduceLeDiff, reduceLT, reduceCtorEq]
 refine Qg (Qc (Qt (fun n e1 H1 => ∃ (i v : Nat), n = l.length - i ∧ i ≤ l.length ∧ v ≤ (l.length - i) + Qv (l.take i) ∧ H1 = H ∧ e1 = [(0, .c (.sl fl 5 (Qax l))), (3, .c (.int .i64 v)), (4, .c (.int .i64 i))]) l.length ?_ ?_))
 ·exact ⟨0, l.length, by omega, by omega, by omega, rfl, rfl⟩
 ·rintro n e1 H1 ⟨i, v, hn1, hi, hv, rfl, rfl⟩
  refine Q2 ?_
  refine Qa ?_
  simp only [go_sem, Qa3, reduceIte, reduceEqDiff, reduceAdd, reduceLeDiff, reduceLT, reduceCtorEq]
  simp only [LIM] at hl
  refine fun _ => ?_
  refine Qg (Qd rfl ?_ ?_)
  ·intro hc
   have hlt : i < l.length := by simpa using hc
   have hm := Qln (List.getElem_mem hlt)
   have htk := Qq6 hlt
   have htl := Qgs l (i + 1)
   have hse := (l[i]'hlt).size_eq
   refine Qf ?_
   simp only [go_sem]
   refine Qg (Qc (Qb4 ?_))
   simp only [go_sem, hlt, Qa3, Qeb _ _ hlt, St.cells_eq, reduceIte, reduceEqDiff, reduceAdd, reduceLeDiff, reduceLT, reduceCtorEq]
   refine ih (Qv l[i].body) (by omega) l[i].body (Nat.le_refl _) (by omega) fun a ha => ?_
   simp only [go_sem, Q2a, hlt, Qa3, Qeb _ _ hlt, St.cells_eq, reduceIte, reduceEqDiff, reduceAdd, reduceLeDiff, reduceLT, reduceCtorEq]
   refine ⟨Qn (by omega) (by omega), ?_⟩
   refine ih (Qv l[i].els) (by omega) l[i].els (Nat.le_refl _) (by omega) fun c hc => ?_
   simp only [go_sem, Q19, reduceIte, reduceEqDiff, reduceAdd, reduceLeDiff, reduceLT, reduceCtorEq]
   refine ⟨Qn (by omega) (by omega), ?_⟩
   refine Qp ?_
   simp only [go_sem, X.next, reduceIte, reduceEqDiff, reduceAdd, reduceLeDiff, reduceLT, reduceCtorEq]
   refine ⟨Qn (by omega) (by omega), l.length - (i + 1), by omega, i + 1, v + a + c, rfl, by omega, by omega, rfl⟩
  ·intro hc
   have hge : l.length ≤ i := by simpa using hc
   refine Qs ?_
   simp only [go_sem, X.next]
   refine Qa ?_
   simp only [go_sem, reduceIte, reduceEqDiff, reduceAdd, reduceLeDiff, reduceLT, reduceCtorEq]
   refine Qj ?_
   simp only [go_sem, Qz, Q9, Qann, reduceIte, List.mem_singleton, forall_eq, RS.op, reduceIte, reduceEqDiff, reduceAdd, reduceLeDiff, reduceLT, reduceCtorEq]
   rw [List.take_of_length_le hge] at hv
   exact hK v (by omega)
def Qbbg (n : Nat) : Prop := ∀ (x : St) (deep : Int) (H : Heap) (K : V → Heap → Prop), x.size ≤ n → x.size ≤ 2^40 → deep ≤ 100 → (∀ b : Bool, K (.c (.bool b)) H) → Qo prog Q6n [.ag x.cells, .c (.int .i64 deep)] H K
def Qa1s (n : Nat) : Prop := ∀ (l : List St) (deep : Int) (fl : Bool) (H : Heap) (K : V → Heap → Prop), Qv l ≤ n → Qv l ≤ 2^40 → deep ≤ 100 → (∀ b : Bool, K (.c (.bool b)) H) → Qo prog Qi7 [.c (.sl fl 5 (Qax l)), .c (.int .i64 deep)] H K
theorem Qa8k {n : Nat} (hS : Qbbg n) : Qa1s n := by
 intro l deep fl H K hn hb hd hK
 refine Qb Qas Qa3e ?_
 have retf : ∀ (b : Bool) (e : Env), lk 4 e = .c (.bool b) → Qz Q7r K .ret e H := by
  intro b e h1
  simp only [go_sem, Qz, Q9, Q7r, List.mem_singleton, forall_eq, RS.op, h1, reduceIte, reduceEqDiff, reduceAdd, reduceLeDiff, reduceLT, reduceCtorEq]
  exact hK _
 refine Qa ?_
 simp only [go_sem, reduceIte, reduceEqDiff, reduceAdd, reduceLeDiff, reduceLT, reduceCtorEq]
 refine Q2 ?_
 refine Qa ?_
 simp only [go_sem, reduceIte, reduceEqDiff, reduceAdd, reduceLeDiff, reduceLT, reduceCtorEq]
 refine Qg (Qc (Qt (fun n e1 H1 => ∃ (i : Nat), n = l.length - i ∧ i ≤ l.length ∧ H1 = H ∧ e1 = [(0, .c (.sl fl 5 (Qax l))), (1, .c (.int .i64 deep)), (5, .c (.int .i64 i))]) l.length ?_ ?_))
 ·exact ⟨0, by omega, by omega, rfl, rfl⟩
 ·rintro n e1 H1 ⟨i, hn1, hi, rfl, rfl⟩
  refine Q2 ?_
  refine Qa ?_
  simp only [go_sem, Qa3, reduceIte, reduceEqDiff, reduceAdd, reduceLeDiff, reduceLT, reduceCtorEq]
  intro hl
  simp only [LIM] at hl
  refine Qg (Qd rfl ?_ ?_)
  ·intro hc
   have hlt : i < l.length := by simpa using hc
   have hm := Qln (List.getElem_mem hlt)
   refine Qf ?_
   simp only [go_sem]
   refine Qg (Qc ?_)
   refine Qa ?_
   simp only [go_sem, hlt, Qa3, Qeb _ _ hlt, St.take5, St.allOw, St.cells_len, reduceIte, reduceEqDiff, reduceAdd, reduceLeDiff, reduceLT, reduceCtorEq]
   refine hS _ deep _ _ (by omega) (by omega) hd fun b => ?_
   simp only [go_sem, Q2j, reduceIte, reduceEqDiff, reduceAdd, reduceLeDiff, reduceLT, reduceCtorEq]
   refine Qd rfl ?_ ?_
   ·intro hc2
    refine Qa ?_
    simp only [go_sem, reduceIte, reduceEqDiff, reduceAdd, reduceLeDiff, reduceLT, reduceCtorEq]
    refine Qj ?_
    simp only [go_sem, X.next]
    exact retf false _ (by simp [lk])
   ·intro hc2
    refine Qf ?_
    simp only [go_sem]
    refine Qp ?_
    simp only [go_sem, X.next, reduceIte, reduceEqDiff, reduceAdd, reduceLeDiff, reduceLT, reduceCtorEq]
    exact ⟨Qn (by omega) (by omega), l.length - (i + 1), by omega, i + 1, rfl, by omega, rfl⟩
  ·intro hc
   refine Qs ?_
   simp only [go_sem, X.next]
   refine Qa ?_
   simp only [go_sem, reduceIte, reduceEqDiff, reduceAdd, reduceLeDiff, reduceLT, reduceCtorEq]
   refine Qj ?_
   exact retf true _ (by simp [lk])
theorem Qba3 {n : Nat} (hS : ∀ m, m < n → Qa1s m) : Qbbg n := by
 intro x deep H K hn hb hd hK
 have hsz := x.size_eq
 refine Qb Qas Qa68 ?_
 have retf : ∀ (b : Bool) (e : Env), lk 4 e = .c (.bool b) → Qz Q52 K .ret e H := by
  intro b e h1
  simp only [go_sem, Qz, Q9, Q52, List.mem_singleton, forall_eq, RS.op, h1, reduceIte, reduceEqDiff, reduceAdd, reduceLeDiff, reduceLT, reduceCtorEq]
  exact hK _
 refine Qa ?_
 simp only [go_sem, x.cells_eq, reduceIte, reduceEqDiff, reduceAdd, reduceLeDiff, reduceLT, reduceCtorEq]
 refine Q2 ?_
 refine Qar ?_
 simp only [go_sem, reduceIte, reduceEqDiff, reduceAdd, reduceLeDiff, reduceLT, reduceCtorEq]
 have rest : ∀ b : Bool, (b = false → 1 ≤ deep ∧ x.args.length = if x.op = 4 then 2 else 1) → Qae prog (s_l3Stmt_2.seq Q99) (Qz Q52 K)
   [(1, .c (.int .i64 deep)), (2, .c (.pp [.int .i64 x.op, .str x.name, .sl false 4 (Qbh x.args), .sl false 5 (Qax x.body), .sl false 5 (Qax x.els)])), (23, .c (.bool b))] H := by
  intro b hb
  refine Qg (Qd rfl ?_ ?_)
  ·intro hc
   refine Qa ?_
   simp only [go_sem, reduceIte, reduceEqDiff, reduceAdd, reduceLeDiff, reduceLT, reduceCtorEq]
   refine Qj ?_
   simp only [go_sem]
   exact retf false _ (by simp [lk])
  intro hc
  obtain ⟨hdp, hal⟩ := hb hc
  have hap : 0 < x.args.length := by rw [hal]; split <;> omega
  refine Qf ?_
  simp only [go_sem]
  refine Qa ?_
  simp only [go_sem, reduceIte, reduceEqDiff, reduceAdd, reduceLeDiff, reduceLT, reduceCtorEq]
  refine Q2 ?_
  refine Qa ?_
  simp only [go_sem, reduceIte, reduceEqDiff, reduceAdd, reduceLeDiff, reduceLT, reduceCtorEq]
  refine Q5q fun b1 => ?_
  simp only [go_sem, Qaaa, reduceIte, reduceEqDiff, reduceAdd, reduceLeDiff, reduceLT, reduceCtorEq]
  refine Qg (Qd rfl ?_ ?_)
  ·intro hc
   refine Qa ?_
   simp only [go_sem, reduceIte, reduceEqDiff, reduceAdd, reduceLeDiff, reduceLT, reduceCtorEq]
   refine Qj ?_
   simp only [go_sem]
   exact retf false _ (by simp [lk])
  intro hc
  refine Qf ?_
  simp only [go_sem]
  refine Q2 ?_
  refine Qa ?_
  simp only [go_sem, reduceIte, reduceEqDiff, reduceAdd, reduceLeDiff, reduceLT, reduceCtorEq]
  refine Qg (Qc (Qt (fun n e1 H1 => ∃ (i : Nat), n = x.args.length - i ∧ i ≤ x.args.length ∧ H1 = H ∧ e1 = [(1, .c (.int .i64 deep)), (2, .c (.pp [.int .i64 x.op, .str x.name, .sl false 4 (Qbh x.args), .sl false 5 (Qax x.body), .sl false 5 (Qax x.els)])), (6, .c (.int .i64 i))]) x.args.length ?_ ?_))
  ·exact ⟨0, by omega, by omega, rfl, rfl⟩
  ·rintro n e1 H1 ⟨i, hn1, hi, rfl, rfl⟩
   refine Q2 ?_
   refine Qa ?_
   simp only [go_sem, Qaz, reduceIte, reduceEqDiff, reduceAdd, reduceLeDiff, reduceLT, reduceCtorEq]
   intro hl
   simp only [LIM] at hl
   refine Qg (Qd rfl ?_ ?_)
   ·intro hc
    have hlt : i < x.args.length := by simpa using hc
    have hm := Qdz (List.getElem_mem hlt)
    refine Qf ?_
    simp only [go_sem]
    refine Qg (Qc ?_)
    refine Qa ?_
    simp only [go_sem, hlt, Qaz, Qdy _ _ hlt, Ex.take4, Ex.allOw, Ex.cells_len, reduceIte, reduceEqDiff, reduceAdd, reduceLeDiff, reduceLT, reduceCtorEq]
    refine Qaq2 (by omega) fun b => ?_
    simp only [go_sem, Qaab, reduceIte, reduceEqDiff, reduceAdd, reduceLeDiff, reduceLT, reduceCtorEq]
    refine Qd rfl ?_ ?_
    ·intro hc2
     refine Qa ?_
     simp only [go_sem, reduceIte, reduceEqDiff, reduceAdd, reduceLeDiff, reduceLT, reduceCtorEq]
     refine Qj ?_
     simp only [go_sem, X.next]
     exact retf false _ (by simp [lk])
    ·intro hc2
     refine Qf ?_
     simp only [go_sem]
     refine Qp ?_
     simp only [go_sem, X.next, reduceIte, reduceEqDiff, reduceAdd, reduceLeDiff, reduceLT, reduceCtorEq]
     exact ⟨Qn (by omega) (by omega), x.args.length - (i + 1), by omega, i + 1, rfl, by omega, rfl⟩
   ·intro hc
    refine Qs ?_
    simp only [go_sem, X.next]
    refine Q2 ?_
    refine Qa ?_
    simp only [go_sem, hap, Qaz, Qdy _ _ hap, Ex.cells_eq, reduceIte, reduceEqDiff, reduceAdd, reduceLeDiff, reduceLT, reduceCtorEq]
    refine ⟨fun _ => Int.le_refl _, ?_⟩
    refine Qg (Qd rfl ?_ ?_)
    ·intro hc
     refine Qa ?_
     simp only [go_sem, reduceIte, reduceEqDiff, reduceAdd, reduceLeDiff, reduceLT, reduceCtorEq]
     refine Qj ?_
     simp only [go_sem]
     exact retf false _ (by simp [lk])
    intro hc
    refine Qf ?_
    simp only [go_sem]
    refine Q2 ?_
    refine Qa ?_
    simp only [go_sem, Qa3, reduceIte, reduceEqDiff, reduceAdd, reduceLeDiff, reduceLT, reduceCtorEq]
    intros
    refine Qg (Qd rfl ?_ ?_)
    ·intro hc
     refine Qa ?_
     simp only [go_sem, reduceIte, reduceEqDiff, reduceAdd, reduceLeDiff, reduceLT, reduceCtorEq]
     refine Qj ?_
     simp only [go_sem]
     exact retf false _ (by simp [lk])
    intro hc
    refine Qf ?_
    simp only [go_sem]
    refine Qa ?_
    simp only [go_sem, reduceIte, reduceEqDiff, reduceAdd, reduceLeDiff, reduceLT, reduceCtorEq]
    refine ⟨Qn (by omega) (by omega), ?_⟩
    refine hS (Qv x.body) (by omega) _ _ _ _ _ (Nat.le_refl _) (by omega) (by omega) fun b1 => ?_
    simp only [go_sem, Q2i, reduceIte, reduceEqDiff, reduceAdd, reduceLeDiff, reduceLT, reduceCtorEq]
    refine ⟨fun _ => Qn (by omega) (by omega), ?_⟩
    refine ⟨fun hb1 => ?_, fun hb1 => ?_⟩
    ·refine hS (Qv x.els) (by omega) _ _ _ _ _ (Nat.le_refl _) (by omega) (by omega) fun b2 => ?_
     simp only [go_sem, Qqa, reduceIte, reduceEqDiff, reduceAdd, reduceLeDiff, reduceLT, reduceCtorEq]
     refine Qj ?_
     exact retf _ _ (by simp [lk]; rfl)
    ·simp only [go_sem, Qqa, hb1, reduceIte, reduceEqDiff, reduceAdd, reduceLeDiff, reduceLT, reduceCtorEq]
     refine Qj ?_
     exact retf false _ (by simp [lk])
 refine ⟨fun hb1 => ?_, fun hb1 => ?_⟩
 ·replace hb1 := Qnl hb1
  have hdp : 1 ≤ deep := by simp at hb1; omega
  refine Qc6 ?_
  simp only [go_sem, Qt0, hb1, Qaz, cond_false, reduceIte, reduceEqDiff, reduceAdd, reduceLeDiff, reduceLT, reduceCtorEq]
  refine ⟨fun hb2 => ?_, fun hb2 => ?_⟩
  ·refine Qa6q ?_
   simp only [go_sem, Qle, Qaz, reduceIte, reduceEqDiff, reduceAdd, reduceLeDiff, reduceLT, reduceCtorEq]
   refine rest _ (fun h => ⟨hdp, ?_⟩)
   have h1 : (x.args.length : Int) = if x.op = 4 then 2 else 1 := by
    cases h2 : decide (1 ≤ x.op ∧ x.op ≤ 8) <;> rw [h2] at h <;> simp_all
   by_cases h4 : x.op = 4
   ·rw [if_pos h4] at h1 ⊢; omega
   ·rw [if_neg h4] at h1 ⊢; omega
  ·replace hb2 := Qeq hb2
   simp only [go_sem, Qle, hb2, Qaz, reduceIte, reduceEqDiff, reduceAdd, reduceLeDiff, reduceLT, reduceCtorEq]
   exact rest _ (fun h => by simp at h)
 ·replace hb1 := Qeq hb1
  simp only [go_sem, Qt0, Qle, hb1, Qaz, cond_true, reduceIte, reduceEqDiff, reduceAdd, reduceLeDiff, reduceLT, reduceCtorEq]
  exact rest _ (fun h => by simp at h)
theorem Qba4 (n : Nat) : Qa1s n := by
 induction n using Nat.strongRecOn with
 | ind n ih => exact Qa8k (Qba3 ih)
theorem Qbbx {f : Fn} (hf : Qv f.body ≤ 2^40) (hK : ∀ b : Bool, K (.c (.bool b)) H) : Qo prog Qare [.ag f.cells] H K := by
 refine Qb Qas Qbb2 ?_
 have retf : ∀ (b : Bool) (e : Env), lk 2 e = .c (.bool b) → Qz Qa3s K .ret e H := by
  intro b e h1
  simp only [go_sem, Qz, Q9, Qa3s, List.mem_singleton, forall_eq, RS.op, h1, reduceIte, reduceEqDiff, reduceAdd, reduceLeDiff, reduceLT, reduceCtorEq]
  exact hK _
 refine Qa ?_
 simp only [go_sem, Fn.cells, reduceIte, reduceEqDiff, reduceAdd, reduceLeDiff, reduceLT, reduceCtorEq]
 refine Q2 ?_
 refine Qa ?_
 simp only [go_sem, reduceIte, reduceEqDiff, reduceAdd, reduceLeDiff, reduceLT, reduceCtorEq]
 refine Qg (Qc (Qt (fun n e1 H1 => ∃ (i : Nat), n = f.params.length - i ∧ i ≤ f.params.length ∧ H1 = H ∧ e1 = [(1, .c (.pp [.str f.name, .sl false 1 (Qbd f.params), .sl false 5 (Qax f.body)])), (3, .c (.int .i64 i))]) f.params.length ?_ ?_))
 ·exact ⟨0, by omega, by omega, rfl, rfl⟩
 ·rintro n e1 H1 ⟨i, hn1, hi, rfl, rfl⟩
  refine Q2 ?_
  refine Qa ?_
  simp only [go_sem, Qao, reduceIte, reduceEqDiff, reduceAdd, reduceLeDiff, reduceLT, reduceCtorEq]
  intro hl
  simp only [LIM] at hl
  refine Qg (Qd rfl ?_ ?_)
  ·intro hc
   have hlt : i < f.params.length := by simpa using hc
   refine Qf ?_
   simp only [go_sem]
   refine Qg (Qc ?_)
   refine Qa ?_
   simp only [go_sem, hlt, Qao, Qgq _ _ hlt, reduceIte, reduceEqDiff, reduceAdd, reduceLeDiff, reduceLT, reduceCtorEq]
   refine Q5q fun b => ?_
   simp only [go_sem, Qao0, reduceIte, reduceEqDiff, reduceAdd, reduceLeDiff, reduceLT, reduceCtorEq]
   refine Qd rfl ?_ ?_
   ·intro hc2
    refine Qa ?_
    simp only [go_sem, reduceIte, reduceEqDiff, reduceAdd, reduceLeDiff, reduceLT, reduceCtorEq]
    refine Qj ?_
    simp only [go_sem, X.next]
    exact retf false _ (by simp [lk])
   ·intro hc2
    refine Qf ?_
    simp only [go_sem]
    refine Qp ?_
    simp only [go_sem, X.next, reduceIte, reduceEqDiff, reduceAdd, reduceLeDiff, reduceLT, reduceCtorEq]
    exact ⟨Qn (by omega) (by omega), f.params.length - (i + 1), by omega, i + 1, rfl, by omega, rfl⟩
  ·intro hc
   refine Qs ?_
   simp only [go_sem, X.next]
   refine Qa ?_
   simp only [go_sem, reduceIte, reduceEqDiff, reduceAdd, reduceLeDiff, reduceLT, reduceCtorEq]
   refine Q5q fun b => ?_
   simp only [go_sem, Qao1, Qao, reduceIte, reduceEqDiff, reduceAdd, reduceLeDiff, reduceLT, reduceCtorEq]
   intros
   refine ⟨fun hb1 => ?_, fun hb1 => ?_⟩
   ·refine Qba4 _ _ _ _ _ _ (Nat.le_refl _) hf (by omega) fun b2 => ?_
    simp only [go_sem, Q85, reduceIte, reduceEqDiff, reduceAdd, reduceLeDiff, reduceLT, reduceCtorEq]
    refine Qj ?_
    exact retf _ _ (by simp [lk]; rfl)
   ·simp only [go_sem, Q85, hb1, reduceIte, reduceEqDiff, reduceAdd, reduceLeDiff, reduceLT, reduceCtorEq]
    refine Qj ?_
    exact retf false _ (by simp [lk])
def Qa1 : List Fn → Nat
 | [] => 0
 | f :: r => Qv f.body + Qa1 r
theorem Qow {l : List Fn} {f : Fn} (h : f ∈ l) : Qv f.body ≤ Qa1 l := by
 induction l with
 | nil => simp at h
 | cons g r ih =>
  simp only [Qa1]
  rcases List.mem_cons.1 h with rfl | h
  ·omega
  ·have := ih h; omega
theorem Qg6 (a b : List Fn) : Qa1 (a ++ b) = Qa1 a + Qa1 b := by
 induction a with
 | nil => simp [Qa1]
 | cons x r ih => simp only [List.cons_append, Qa1, ih]; omega
theorem Qaju {l : List Fn} {i : Nat} (h : i < l.length) : Qa1 (l.take (i + 1)) = Qa1 (l.take i) + Qv (l[i]'h).body := by
 rw [List.take_succ_eq_append_getElem h, Qg6]; simp [Qa1]
theorem Q3l (l : List Fn) (i : Nat) : Qa1 (l.take i) ≤ Qa1 l := by
 conv => rhs; rw [← List.take_append_drop i l, Qg6]
 omega
theorem Qbaa {l : List Fn} {fl : Bool} (hf : Qa1 l ≤ 2^40) (hK : ∀ n : Int, K (.c (.int .i64 n)) H) : Qo prog Qaiy [.ag [.sl fl 3 (Qby l)]] H K := by
 refine Qb Qas Qbam ?_
 refine Qa ?_
 simp only [go_sem, reduceIte, reduceEqDiff, reduceAdd, reduceLeDiff, reduceLT, reduceCtorEq]
 refine Qa ?_
 simp only [go_sem, reduceIte, reduceEqDiff, reduceAdd, reduceLeDiff, reduceLT, reduceCtorEq]
 refine Q2 ?_
 refine Qa ?_
 simp only [go_sem, reduceIte, reduceEqDiff, reduceAdd, reduceLeDiff, reduceLT, reduceCtorEq]
 refine Qg (Qc (Qt (fun n e1 H1 => ∃ (i v : Nat), n = l.length - i ∧ i ≤ l.length ∧ v ≤ Qa1 (l.take i) ∧ H1 = H ∧ e1 = [(1, .c (.pp [.sl fl 3 (Qby l)])), (3, .c (.int .i64 v)), (4, .c (.int .i64 i))]) l.length ?_ ?_))
 ·exact ⟨0, 0, by omega, by omega, by omega, rfl, rfl⟩
 ·rintro n e1 H1 ⟨i, v, hn1, hi, hv, rfl, rfl⟩
  refine Q2 ?_
  refine Qa ?_
  simp only [go_sem, Qa9, reduceIte, reduceEqDiff, reduceAdd, reduceLeDiff, reduceLT, reduceCtorEq]
  intro hl
  simp only [LIM] at hl
  refine Qg (Qd rfl ?_ ?_)
  ·intro hc
   have hlt : i < l.length := by simpa using hc
   have hm := Qow (List.getElem_mem hlt)
   have htk := Qaju hlt
   have htl := Q3l l (i + 1)
   refine Qf ?_
   simp only [go_sem]
   refine Qg (Qc (Qp ?_))
   simp only [go_sem, hlt, Qa9, Qfj _ _ hlt, Fn.cells, reduceIte, reduceEqDiff, reduceAdd, reduceLeDiff, reduceLT, reduceCtorEq]
   refine Qa2v _ _ (Nat.le_refl _) (by omega) fun c hc => ?_
   simp only [go_sem, Qaid, reduceIte, reduceEqDiff, reduceAdd, reduceLeDiff, reduceLT, reduceCtorEq]
   refine ⟨Qn (by omega) (by omega), ?_⟩
   refine Qp ?_
   simp only [go_sem, X.next, reduceIte, reduceEqDiff, reduceAdd, reduceLeDiff, reduceLT, reduceCtorEq]
   exact ⟨Qn (by omega) (by omega), l.length - (i + 1), by omega, i + 1, v + c, rfl, by omega, by omega, rfl⟩
  ·intro hc
   refine Qs ?_
   simp only [go_sem, X.next]
   refine Qa ?_
   simp only [go_sem, reduceIte, reduceEqDiff, reduceAdd, reduceLeDiff, reduceLT, reduceCtorEq]
   refine Qj ?_
   simp only [go_sem, Qz, Q9, Qa3r, reduceIte, List.mem_singleton, forall_eq, RS.op, reduceIte, reduceEqDiff, reduceAdd, reduceLeDiff, reduceLT, reduceCtorEq]
   exact hK _
theorem Qadl {l : List Fn} {fl : Bool} (hf : Qa1 l ≤ 2^40) (hK : ∀ b : Bool, K (.c (.bool b)) H) : Qo prog Qdi [.ag [.sl fl 3 (Qby l)]] H K := by
 refine Qb Qas Qye ?_
 have retf : ∀ (b : Bool) (e : Env), lk 2 e = .c (.bool b) → Qz Qd4 K .ret e H := by
  intro b e h1
  simp only [go_sem, Qz, Q9, Qd4, List.mem_singleton, forall_eq, RS.op, h1, reduceIte, reduceEqDiff, reduceAdd, reduceLeDiff, reduceLT, reduceCtorEq]
  exact hK _
 refine Qa ?_
 simp only [go_sem, reduceIte, reduceEqDiff, reduceAdd, reduceLeDiff, reduceLT, reduceCtorEq]
 refine Q2 ?_
 refine Qa ?_
 simp only [go_sem, Qa9, reduceIte, reduceEqDiff, reduceAdd, reduceLeDiff, reduceLT, reduceCtorEq]
 intro hl
 simp only [LIM] at hl
 refine Qc6 ?_
 simp only [go_sem, Qe4, reduceIte, reduceEqDiff, reduceAdd, reduceLeDiff, reduceLT, reduceCtorEq]
 refine Qg (Qd rfl ?_ ?_)
 ·intro hc
  refine Qa ?_
  simp only [go_sem, reduceIte, reduceEqDiff, reduceAdd, reduceLeDiff, reduceLT, reduceCtorEq]
  refine Qj ?_
  simp only [go_sem]
  exact retf false _ (by simp [lk])
 intro hc
 refine Qf ?_
 simp only [go_sem]
 refine Q2 ?_
 refine Qa ?_
 simp only [go_sem, reduceIte, reduceEqDiff, reduceAdd, reduceLeDiff, reduceLT, reduceCtorEq]
 refine Qg (Qc (Qt (fun n e1 H1 => ∃ (i : Nat), n = l.length - i ∧ i ≤ l.length ∧ H1 = H ∧ e1 = [(1, .c (.pp [.sl fl 3 (Qby l)])), (3, .c (.int .i64 i))]) l.length ?_ ?_))
 ·exact ⟨0, by omega, by omega, rfl, rfl⟩
 ·rintro n e1 H1 ⟨i, hn1, hi, rfl, rfl⟩
  refine Q2 ?_
  refine Qa ?_
  simp only [go_sem, Qa9, reduceIte, reduceEqDiff, reduceAdd, reduceLeDiff, reduceLT, reduceCtorEq]
  refine fun _ => ?_
  refine Qg (Qd rfl ?_ ?_)
  ·intro hc
   have hlt : i < l.length := by simpa using hc
   have hm := Qow (List.getElem_mem hlt)
   refine Qf ?_
   simp only [go_sem]
   refine Qg (Qc ?_)
   refine Qa ?_
   simp only [go_sem, hlt, Qa9, Qfj _ _ hlt, Fn.take3, Fn.allOw, Fn.cells_len, reduceIte, reduceEqDiff, reduceAdd, reduceLeDiff, reduceLT, reduceCtorEq]
   refine Qbbx (by omega) fun b => ?_
   simp only [go_sem, Qe5, reduceIte, reduceEqDiff, reduceAdd, reduceLeDiff, reduceLT, reduceCtorEq]
   refine Qd rfl ?_ ?_
   ·intro hc2
    refine Qa ?_
    simp only [go_sem, reduceIte, reduceEqDiff, reduceAdd, reduceLeDiff, reduceLT, reduceCtorEq]
    refine Qj ?_
    simp only [go_sem, X.next]
    exact retf false _ (by simp [lk])
   ·intro hc2
    refine Qf ?_
    simp only [go_sem]
    refine Qp ?_
    simp only [go_sem, X.next, reduceIte, reduceEqDiff, reduceAdd, reduceLeDiff, reduceLT, reduceCtorEq]
    exact ⟨Qn (by omega) (by omega), l.length - (i + 1), by omega, i + 1, rfl, by omega, rfl⟩
  ·intro hc
   refine Qs ?_
   simp only [go_sem, X.next]
   refine Qa ?_
   simp only [go_sem, reduceIte, reduceEqDiff, reduceAdd, reduceLeDiff, reduceLT, reduceCtorEq]
   refine Qbaa hf fun n => ?_
   simp only [go_sem, Qe6, reduceIte, reduceEqDiff, reduceAdd, reduceLeDiff, reduceLT, reduceCtorEq]
   refine Qj ?_
   exact retf _ _ (by simp [lk]; rfl)
end Go.AE.Y

attribute [go_sem_proc] reduceIte reduceEqDiff reduceAdd reduceLeDiff reduceLT reduceCtorEq
namespace Go.AE.Y
open Go.Proofs.Tryz
structure PrOk (l : List Fn) : Prop where
 pos : 0 < l.length
 par : ∀ f ∈ l, f.params.length ≤ 3
 ok : ∀ f ∈ l, Qcm f.body
 size : Qa1 l ≤ 2^34
 len : l.length ≤ 4
end Go.AE.Y
namespace Go.AE
open Go.AE.Y
open Go.Proofs.Tryz
theorem Kn.perm4 {H0 H : Heap} {E : List (Nat × Obj)} {a b c d : Nat × Obj} (kn : Kn H0 H E [a, b, c, d]) : Kn H0 H E [a, b, d] :=
 Kn.drop (A := [a, b, d]) (B := [c]) (kn.perm (.cons _ (.cons _ (.swap _ _ _))))
end Go.AE
namespace Go.AE.Y
open Go.Proofs.Tryz
set_option maxHeartbeats 2000000 in
theorem Qa6r {R : Rdr} {k : Nat} {H : Heap} {K : V → Heap → Prop} (hR : H R.l = R.o k) (hk : k + 7000000 ≤ 2^30)
  (hK : ∀ (l : List Fn) (H' : Heap) (k' : Nat), k < k' → k' ≤ k + 7000000 → Upd H H' [(R.l, R.o k')] → PrOk l → K (.ag [.sl false 3 (Qby l)]) H') :
  Qo prog Q6m [.c (.ptr R.l 0)] H K := by
 refine Q0 ?_
 refine Qb Qas Qa67 ?_
 refine Qa ?_
 simp only [go_sem]
 intro x2 hx2 H1 h1
 have kn := (Kn.start1 hR (R.o_ne k)).al hx2 h1
 refine Qa ?_
 simp only [go_sem]
 refine Qig (ns := [14, 20, 8, 26]) (kn.e 0 rfl) (by omega) (by simp) fun v H2 hv hu => ?_
 have kn := kn.callE 0 rfl hu (R.o_ne _)
 simp only [go_sem, Q93]
 intro gl hgl H3 h3
 have kn : Kn H H3 [(R.l, R.o (k + 1))] [(x2, .st [.sl true 3 []]), (gl, GS.o ⟨[], (.sl true 3 [], []), [], true, 0, v⟩ R)] := kn.al hgl h3
 have hv26 : 0 ≤ v ∧ v ≤ 26 := by simp at hv; omega
 simp only [go_sem, Q92]
 have hne : R.l ≠ gl := kn.ne 0 1 rfl rfl
 refine Q2 ?_
 refine Qa ?_
 simp only [go_sem]
 refine Qig (ns := [0, 1, 1, 2]) (kn.e 0 rfl) (by omega) (by simp) fun cnt H4 hcnt hu => ?_
 have kn := kn.callE 0 rfl hu (R.o_ne _)
 have hc2 : 0 ≤ cnt ∧ cnt ≤ 2 := by simp at hcnt; omega
 simp only [go_sem, Q94]
 obtain ⟨M, hM⟩ : ∃ M : Nat, M = 2001301 := ⟨_, rfl⟩
 refine Qg (Qc (Qt (fun n e1 H1 => ∃ (j k4 : Nat) (s : GS), n = cnt.toNat - j ∧ (j : Int) ≤ cnt ∧ s.fns.length = j ∧ k + 2 ≤ k4 ∧ k4 ≤ k + 2 + M * j ∧ s.ok k4 ∧ (∀ f ∈ s.fns, Qcm f.body) ∧ 4 * k + Qa1 s.fns ≤ 4 * k4 ∧
   Gr s.ffl.2 3 (Qby s.fns) s.ffl.1 ∧ Kn H H1 [(R.l, R.o k4)] ([(x2, .st [.sl true 3 []]), (gl, s.o R)] ++ s.ffl.2) ∧
   e1 = [(0, .c (.ptr R.l 0)), (2, .c (.ptr x2 0)), (3, .c (.ptr gl 0)), (4, .c (.int .i64 (cnt - j)))]) cnt.toNat ?_ ?_))
 ·refine ⟨0, k + 2, ⟨[], (.sl true 3 [], []), [], true, 0, v⟩, by omega, by omega, rfl, by omega, by omega, ⟨?_, ?_, ?_, ?_, by simp, by simp, by simp⟩, by simp, by simp only [Qa1]; omega, .nil 3, kn, by simp⟩
  ·show -1 ≤ (0 : Int); omega
  ·show (0 : Int) ≤ _; omega
  ·show _ ≤ v; omega
  ·show v ≤ 100; omega
 ·rintro n e1 H1 ⟨j, k4, s, hn, hj, hfl, hk4, hk4', hs, hfok, hsz, hgr, kn, rfl⟩
  have hMj : M * j ≤ M * 2 := Nat.mul_le_mul_left _ (by omega)
  have hM1 : M * (j + 1) = M * j + M := Nat.mul_succ _ _
  have hG1 := kn.l 1 rfl
  have hfow := hgr.isOw
  have hflen := hgr.lenC
  rw [Qa9] at hflen
  refine Q2 ?_
  refine Qa ?_
  simp only [go_sem]
  refine Qg (Qd rfl ?_ ?_)
  ·intro hc
   have hi : (j : Int) < cnt := by simp at hc; omega
   refine Qf ?_
   simp only [go_sem]
   refine Qg (Qc ?_)
   have hfok' := (hgr.okSl (B := [_, _]) kn)
   have eg : List.getD [[C.str [102]], [C.str [103]], [C.str [104]]] s.fns.length [] = [.str (List.getD [[102], [103], [104]] s.fns.length [])] := Qgq [[102], [103], [104]] _ (by simp; omega)
   have hl3 : s.fns.length < 3 := by omega
   refine Qar ?_
   simp only [go_sem, hG1, GS.o, hfow, hflen, eq_true hfok', eg, hl3]
   refine Qa5 (kn.e 0 rfl) (by omega) fun p H2 hp hu => ?_
   have kn : Kn H H2 [(R.l, R.o (k4 + 1))] ([(x2, .st [.sl true 3 []]), (gl, s.o R)] ++ s.ffl.2) := kn.callE 0 rfl hu (R.o_ne _)
   rw [if_neg (by omega)] at hp
   have hG2 := kn.l 1 rfl
   have hfok2 := (hgr.okSl (B := [_, _]) kn)
   simp only [go_sem, Q97, hG2, GS.o, hfow, hflen, eq_true hfok2, eg, hl3]
   have hF : FnsOk H2 R gl s := ⟨hgr, fun q hq => by
    have h1 := kn.get q (List.mem_append_right _ (List.mem_append_right _ hq))
    refine ⟨h1.1, fun hh => ?_, fun hh => ?_⟩
    ·exact kn.usedE 0 rfl (hh ▸ kn.loc q (List.mem_append_right _ hq))
    ·have := kn.dL
     rw [List.map_append] at this
     exact (List.nodup_append.1 this).2.2 gl (by simp) q.1 (Qbv hq) hh.symm⟩
   refine Qahu hp.1 (by omega) (kn.e 0 rfl) (kn.l 1 rfl) hne (hs.mono (Nat.le_succ k4)) hF (by omega) fun f s2 H5 k5 g1 g2 hu hs2 g3 g4 g5 g6 g7 => ?_
   have kn := kn.callEL 0 1 rfl rfl hu (R.o_ne _) (GS.o_ne _ _)
   have kn : Kn H H5 [(R.l, R.o k5)] ([(x2, .st [.sl true 3 []]), (gl, s2.o R)] ++ s.ffl.2) := kn
   simp only [go_sem, Q96]
   intro x5 hx5 H6 h6
   have kn := kn.al hx5 h6
   have kn := kn.perm (L' := [(x2, _), (gl, _), (x5, _)] ++ s.ffl.2) (by
    simp only [List.cons_append, List.nil_append, List.append_assoc]
    exact .cons _ (.cons _ List.perm_append_comm))
   have hG6 := kn.l 1 rfl
   have hx56 := kn.l 2 rfl
   have hfok6 := (hgr.okSl (B := [_, _, _]) kn)
   simp only [go_sem, Q95, hG6, hx56, GS.o, g3, g4, hfow, hflen, eq_true hfok6, eg, hl3, Fn.cells]
   intro H7 h7
   have kn : Kn H H7 [(R.l, R.o k5)] ([(x2, _), (gl, _), (x5, _)] ++ s.ffl.2) := kn.stL 2 rfl h7
   have hG7 := kn.l 1 rfl
   have hx57 := kn.l 2 rfl
   refine Qb4 ?_
   simp only [go_sem, hG7, hx57, GS.o, g4, hfow]
   refine kn.grow (B := [_, _, _]) (new := [f.cells]) hgr (.mk' _ _ _ _) (by simp [f.noOw]) (by simp only [Qa9, LIM, List.length_cons, List.length_nil]; omega) fun z H8 kn => ?_
   have hG8 := kn.l 1 rfl
   simp only [go_sem, Q98, hG8, GS.o]
   intro H9 h9
   have kn := kn.stL 1 rfl h9
   obtain ⟨s9, hs9⟩ : ∃ s9 : GS, s9 = GS.mk (s.fns ++ [f]) (C.vsl z 3 0 ((Qby s.fns).length + 1), [(z, Obj.vec 3 (Qby s.fns ++ [f.cells]))]) s2.vars s2.vfl s2.next s2.left := ⟨_, rfl⟩
   have ho9 : s9.o R = .st [C.ptr R.l 0, C.vsl z 3 0 ((Qby s.fns).length + 1), C.sl s2.vfl 1 (Qbd s2.vars), C.int IntKind.i64 s2.next, C.int IntKind.i64 s2.left] := by rw [hs9]; rfl
   rw [← ho9] at kn
   have kn : Kn H H9 [(R.l, R.o k5)] [(x2, _), (gl, s9.o R), (x5, _), (z, _)] := kn
   have kn := kn.perm4
   refine Qp ?_
   simp only [go_sem, X.next]
   have hkb : k5 ≤ k + 2 + M * (j + 1) := by rw [hM1]; omega
   refine ⟨Qn (by omega) (by omega), cnt.toNat - (j + 1), by omega, j + 1, k5, s9, rfl, by omega, by simp [hs9, hfl], by omega, hkb, ?_, ?_, ?_, ?_, by rw [hs9] at kn ⊢; exact kn, ?_⟩
   ·subst hs9; refine ⟨hs2.n0, hs2.n1, hs2.l0, hs2.l1, hs2.v, fun f' hf' => ?_, by simp; omega⟩
    rcases List.mem_append.1 hf' with h | h
    ·exact hs.f f' h
    ·simp at h; subst h; exact g5
   ·subst hs9; intro f' hf'
    rcases List.mem_append.1 hf' with h | h
    ·exact hfok f' h
    ·simp at h; subst h; exact g6
   ·subst hs9; simp only [Qg6, Qa1]; omega
   ·subst hs9; show Gr [(z, Obj.vec 3 (Qby s.fns ++ [f.cells]))] 3 (Qby (s.fns ++ [f])) _; rw [Qahp]; exact .mk _ _ _ (by simp [Qa9])
   ·have : cnt - ((j + 1 : Nat) : Int) = cnt - j - 1 := by omega
    rw [this]
  ·intro hc
   refine Qs ?_
   simp only [go_sem, X.next]
   have hkE : k4 ≤ k + 4002604 := by omega
   refine Qa ?_
   simp only [go_sem]
   refine Qig (ns := [0, 1, 2, 1]) (kn.e 0 rfl) (by omega) (by simp) fun p H2 hp hu => ?_
   have kn : Kn H H2 [(R.l, R.o (k4 + 1))] ([(x2, .st [.sl true 3 []]), (gl, s.o R)] ++ s.ffl.2) := kn.callE 0 rfl hu (R.o_ne _)
   have hp2 : 0 ≤ p ∧ p ≤ 3 := by simp at hp; omega
   simp only [go_sem, Q2d]
   have hF : FnsOk H2 R gl s := ⟨hgr, fun q hq => by
    have h1 := kn.get q (List.mem_append_right _ (List.mem_append_right _ hq))
    refine ⟨h1.1, fun hh => ?_, fun hh => ?_⟩
    ·exact kn.usedE 0 rfl (hh ▸ kn.loc q (List.mem_append_right _ hq))
    ·have := kn.dL
     rw [List.map_append] at this
     exact (List.nodup_append.1 this).2.2 gl (by simp) q.1 (Qbv hq) hh.symm⟩
   refine Qahu hp2.1 hp2.2 (kn.e 0 rfl) (kn.l 1 rfl) hne (hs.mono (Nat.le_succ k4)) hF (by omega) fun f s2 H5 k5 g1 g2 hu hs2 g3 g4 g5 g6 g7 => ?_
   have kn := kn.callEL 0 1 rfl rfl hu (R.o_ne _) (GS.o_ne _ _)
   have kn : Kn H H5 [(R.l, R.o k5)] ([(x2, .st [.sl true 3 []]), (gl, s2.o R)] ++ s.ffl.2) := kn
   simp only [go_sem, Q2c]
   intro x6 hx6 H6 h6
   have kn := kn.al hx6 h6
   have kn := kn.perm (L' := [(x2, _), (gl, _), (x6, _)] ++ s.ffl.2) (by
    simp only [List.cons_append, List.nil_append, List.append_assoc]
    exact .cons _ (.cons _ List.perm_append_comm))
   have hx66 := kn.l 2 rfl
   simp only [go_sem, Q2b, hx66, Fn.cells]
   intro H7 h7
   have kn : Kn H H7 [(R.l, R.o k5)] ([(x2, _), (gl, _), (x6, _)] ++ s.ffl.2) := kn.stL 2 rfl h7
   have hG7 := kn.l 1 rfl
   have hx67 := kn.l 2 rfl
   have hfok7 := hgr.okSl (B := [_, _, _]) kn
   have hrows7 := hgr.rowsOf (B := [_, _, _]) kn
   have hesz := hgr.elemSz
   have hL : s.fns.length ≤ LIM := by simp only [LIM]; omega
   refine Qar ?_
   simp only [go_sem, hG7, hx67, GS.o, g4, hfow, hflen, eq_true hfok7, hrows7, hesz, hL, Nat.zero_add]
   refine ⟨.inl trivial, Qaho _, fun y hy H8 h8 => ?_⟩
   have kn := kn.al hy h8
   have kn := kn.perm (L' := ([(x2, _), (gl, _), (x6, _)] ++ [(y, _)]) ++ s.ffl.2) Qbb6
   have kn := kn.drop
   have hx68 := kn.l 2 rfl
   have kn : Kn H H8 [(R.l, R.o k5)] [(x2, _), (gl, _), (x6, _), (y, _)] := kn
   have hy8 := kn.l 3 rfl
   have etk : List.take s.fns.length (Qby s.fns) = Qby s.fns := List.take_of_length_le (by rw [Qa9]; omega)
   simp only [go_sem, Q2g, hx68, hy8, Qa9, etk]
   refine ⟨by omega, by simp only [LIM]; omega, fun z hz H9 h9 => ?_⟩
   have kn : Kn H H9 [(R.l, R.o k5)] [(x2, _), (gl, _), (x6, _), (z, .vec 3 (Qby s.fns ++ [f.cells]))] := kn.ap 3 rfl hz h9
   simp only [go_sem, Q2f]
   intro x7 hx7 H10 h10
   have kn := kn.al hx7 h10
   have hG10 := kn.l 1 rfl
   have hx6a := kn.l 2 rfl
   have hx7a := kn.l 4 rfl
   have kn : Kn H H10 [(R.l, R.o k5)] [(x2, _), (gl, _), (x6, _), (z, _), (x7, _)] := kn
   simp only [go_sem, Q2e, hG10, hx6a, hx7a, GS.o, g4, hfow]
   intro H11 h11
   have kn := kn.stL 4 rfl h11
   have kn : Kn H H11 [(R.l, R.o k5)] ([(x2, .st [.sl true 3 []]), (x7, .st [.vsl z 3 0 (s.fns.length + 1)])] ++ [(z, .vec 3 (Qby s.fns ++ [f.cells]))]) :=
    (kn.perm (L' := ([(x2, _), (x7, _)] ++ [(z, _)]) ++ [(gl, _), (x6, _)]) (by
     simp only [List.set, List.cons_append, List.nil_append]
     refine .cons _ ?_
     refine .trans (.cons _ (.cons _ (.swap _ _ _))) ?_
     refine .trans (.cons _ (.swap _ _ _)) ?_
     refine .trans (.swap _ _ _) ?_
     refine .cons _ ?_
     refine .trans (.cons _ (.swap _ _ _)) ?_
     exact .swap _ _ _)).drop
   have hz11 := kn.l 2 rfl
   have hx711 := kn.l 1 rfl
   obtain ⟨hfz, kn⟩ := kn.freeze 1 rfl (og' := .st [.sl false 3 (Qby (s.fns ++ [f]))]) (FrzKL.st (.cons rfl (by
    rw [← Qahp]
    exact Qai3 (by simp) hz11 (by simp [Qa9]) (Qg4 (Qa7k (Qaho _) (by simp [f.noOw])))) .nil)) (by simp)
   refine Q2 ?_
   refine c_gh (Qx7 _ (fun t => ?_) hfz) (e' := [(2, V.c (C.ptr x2 0)), (7, V.c (C.ptr x7 0))]) ?_
   ·simp only [lk]
    split
    ·exact .c _ _ (.same _ rfl)
    ·split
     ·exact .c _ _ (.same _ rfl)
     ·exact .unk _
   generalize ((H11.frz fun m => m == z).set x7 (Obj.st [C.sl false 3 (Qby (s.fns ++ [f]))])) = H12 at *
   have hx7b := kn.l 1 rfl
   have hx2b := kn.l 0 rfl
   have hpr : Qa1 (s.fns ++ [f]) ≤ 2^34 := by rw [Qg6]; simp only [Qa1]; omega
   refine Qa ?_
   simp only [go_sem, hx7b]
   refine Qadl (by omega) fun b => ?_
   simp only [go_sem, Q2h]
   refine Qg (Qd rfl ?_ ?_)
   ·intro hc
    refine Qa ?_
    simp only [go_sem, hx2b]
    intro H13 h13
    have kn := kn.stL 0 rfl h13
    have hx2c := kn.l 0 rfl
    refine Qj ?_
    simp only [go_sem, Qz, Q9, Qajx, reduceIte, List.mem_singleton, forall_eq, RS.op, hx2c]
    refine ⟨.ag [.sl false 3 (Qby [Fn.mk [109] [] [St.mk 3 [] [Ex.mk 1 1 [] []] [] []]])], FrzL.ag ?_, hK _ _ k5 (by omega) (by omega) kn.fin ⟨by simp, by simp, ?_, ?_, by simp⟩⟩
    ·simp only [Qby, List.map_cons, List.map_nil, Fn.cells, Qain, Qax, St.cells, Qbh, Ex.cells]
     repeat' first | exact FrzL.nil | exact FrzR.nil | exact Qi rfl | exact FrzL.same (Ex.noOw _) | exact FrzL.same (St.noOw _) | refine FrzL.cons ?_ ?_ | refine FrzR.cons ?_ ?_ | refine FrzR.sl ?_
    ·intro f hf
     simp at hf; subst hf
     simp [Qcm, St.ok, Qdc, Ex.ok]
    ·simp [Qa1, Qv, St.size, Qab, Ex.size]
   ·intro hc
    refine Qf ?_
    simp only [go_sem]
    refine Qa ?_
    simp only [go_sem, hx2b, hx7b]
    intro H13 h13
    have kn := kn.stL 0 rfl h13
    have hx2c := kn.l 0 rfl
    refine Qj ?_
    simp only [go_sem, Qz, Q9, Qajx, reduceIte, List.mem_singleton, forall_eq, RS.op, hx2c]
    refine ⟨.ag [.sl false 3 (Qby (s.fns ++ [f]))], FrzL.ag (.cons (Qi rfl) .nil), hK _ _ k5 (by omega) (by omega) kn.fin ⟨by simp, ?_, ?_, hpr, by simp; omega⟩⟩
    ·intro f' hf'
     rcases List.mem_append.1 hf' with h | h
     ·exact hs.f f' h
     ·simp at h; subst h; exact g5
    ·intro f' hf'
     rcases List.mem_append.1 hf' with h | h
     ·exact hfok f' h
     ·simp at h; subst h; exact g6
end Go.AE.Y

namespace Go.AE.Y
open Go.Proofs.Tryz
variable {F H : Heap} {w : Nat} {s : LS} {K : V → Heap → Prop}
structure LStep (s s' : LS) (d : Nat) : Prop where
 bl : s.blocks.length ≤ s'.blocks.length
 ok : ∀ N, s.ok N → s'.ok (N + d)
 vl : s.vars.length ≤ s'.vars.length
 at_ : s.at_ < s.blocks.length → s'.at_ < s'.blocks.length
 fn : s'.fns = s.fns ∧ s'.pfl = s.pfl
theorem LStep.trans {s s' s'' : LS} {d e : Nat} (h : LStep s s' d) (k : LStep s' s'' e) : LStep s s'' (d + e) :=
 ⟨Nat.le_trans h.bl k.bl, fun N hN => by rw [← Nat.add_assoc]; exact k.ok _ (h.ok N hN), Nat.le_trans h.vl k.vl, fun ha => k.at_ (h.at_ ha), k.fn.1.trans h.fn.1, k.fn.2.trans h.fn.2⟩
theorem LStep.refl (s : LS) : LStep s s 0 := ⟨Nat.le_refl _, fun N h => h, Nat.le_refl _, fun h => h, rfl, rfl⟩
theorem LStep.mono {s s' : LS} {d e : Nat} (h : LStep s s' d) (hd : d ≤ e) : LStep s s' e := ⟨h.bl, fun N hN => (h.ok N hN).mono (by omega), h.vl, h.at_, h.fn⟩
theorem Qos {N : Nat} (h : LInv F H w s) (hok : s.ok N) (hN : N + 1 ≤ 2^38) (hK : ∀ (s' : LS) (H' : Heap), LInv F H' w s' → LStep s s' 1 → K (.c (.int .i64 s.regs)) H') :
  Qo prog Qay [.c (.ptr w 0)] H K := by
 have hw := h.hw
 have h0 := hok.r0
 have h1 := hok.r1
 refine Qb Qas Qajl ?_
 refine Qa ?_
 simp only [go_sem]
 refine Qa ?_
 simp only [go_sem, hw, LS.o]
 refine ⟨Qn (by omega) (by omega), fun H1 h1' => ?_⟩
 have h' : LInv F H1 w { s with regs := s.regs + 1 } := h.setw h1' rfl rfl rfl rfl h.gv h.rv
 have hw1 := h'.hw
 refine Qa ?_
 simp only [go_sem, hw1, LS.o]
 refine ⟨Qn (by omega) (by omega), ?_⟩
 refine Qj ?_
 simp only [go_sem, Qz, Q9, Qva, reduceIte, List.mem_singleton, forall_eq, RS.op]
 refine hK _ H1 h' ⟨Nat.le_refl _, fun M hM => ⟨?_, ?_, hM.n0, ?_, ?_, ?_, ?_⟩, Nat.le_refl _, fun h => h, rfl, rfl⟩
 ·have := hM.r0; show 0 ≤ s.regs + 1; omega
 ·have := hM.r1; show s.regs + 1 ≤ _; omega
 ·have := hM.n1; show s.next ≤ _; omega
 ·have := hM.b1; show s.blocks.length ≤ _; omega
 ·intro b hb; have := hM.i1 b hb; omega
 ·have := hM.v1; show s.vars.length ≤ _; omega
theorem Qamg {N : Nat} (h : LInv F H w s) (hok : s.ok N) (hN : N + 1 ≤ 2^38) (hK : ∀ (s' : LS) (H' : Heap), LInv F H' w s' → LStep s s' 1 → s.blocks.length < s'.blocks.length → s'.at_ = s.at_ → K (.c (.int .i64 s.blocks.length)) H') :
  Qo prog Qag [.c (.ptr w 0)] H K := by
 have hw := h.hw
 have hb1 := hok.b1
 have hbow := h.gb.isOw
 refine Qb Qas Qajk ?_
 refine Qa ?_
 simp only [go_sem]
 refine Qa ?_
 simp only [go_sem, hw, LS.o, hbow]
 refine h.addBlk (b := ⟨.sl true 4 [], [], [], 0, 0, true, []⟩) (by simp only [LIM]; omega) rfl rfl rfl fun y H1 hw1 cont => ?_
 simp only [go_sem, Qms, hw1, LS.o]
 intro H2 h2
 have h' := cont H2 h2
 have hw2 := h'.hw
 obtain ⟨y2, hv1, hv2, hv3⟩ := h'.bvec (by simp)
 simp only [C.vsl.injEq] at hv1
 obtain ⟨rfl, _⟩ := hv1
 refine Qa ?_
 simp only [go_sem, hw2, LS.o, hv3, List.length_map, List.length_append]
 refine ⟨by omega, fun hl => ⟨Qn (by omega) (by omega), ?_⟩⟩
 refine Qj ?_
 simp only [go_sem, Qz, Q9, Qu9, reduceIte, List.mem_singleton, forall_eq, RS.op]
 have e1 : (((s.blocks.length + 1 : Nat) : Int) - 1) = s.blocks.length := by omega
 rw [e1]
 refine hK _ H2 h' ⟨by simp, fun M hM => ⟨hM.r0, ?_, hM.n0, ?_, ?_, ?_, ?_⟩, Nat.le_refl _, fun ha => by simp; show s.at_ < _; omega, rfl, rfl⟩ (by simp) rfl
 ·have := hM.r1; show s.regs ≤ _; omega
 ·have := hM.n1; show s.next ≤ _; omega
 ·have := hM.b1; simp; omega
 ·intro b hb
  rcases List.mem_append.1 hb with hb | hb
  ·have := hM.i1 b hb; omega
  ·simp at hb; subst hb; simp
 ·have := hM.v1; show s.vars.length ≤ _; omega
theorem Qe7 {N : Nat} (h : LInv F H w s) (hok : s.ok N) (hN : N + 1 ≤ 2^38) (hK : ∀ (s' : LS) (H' : Heap), LInv F H' w s' → LStep s s' 1 → s.blocks.length < s'.blocks.length → K (.c (.int .i64 s.blocks.length)) H') :
  Qo prog Qag [.c (.ptr w 0)] H K := Qamg h hok hN fun s' H' a b c _ => hK s' H' a b c
theorem Qyi {N : Nat} {op to n : Int} {fl : Bool} {args : List Int} (h : LInv F H w s) (hat : s.at_ < s.blocks.length) (hok : s.ok N) (hN : N + 1 ≤ 2^38)
  (hK : ∀ (s' : LS) (H' : Heap), LInv F H' w s' → LStep s s' 1 → K (.c (.int .i64 to)) H') :
  Qo prog Qaq [.c (.ptr w 0), .c (.int .i64 op), .c (.int .i64 to), .c (.int .i64 n), .c (.sl fl 1 (Qh args))] H K := by
 have hw := h.hw
 obtain ⟨y, hbc, hlb, hy⟩ := h.bvec (by omega)
 have hm := List.getElem_mem hat
 have hi1 := hok.i1 _ hm
 have hiow := (h.gi _ hm).isOw
 have hg1 : List.getD (List.map Blk.row s.blocks) s.at_ [] = s.blocks[s.at_].row := by simp [List.getD_eq_getElem?_getD, hat]
 have hg2 : List.getD (List.take s.blocks.length (List.map Blk.row s.blocks)) s.at_ [] = s.blocks[s.at_].row := by
  rw [List.take_of_length_le (by simp)]; exact hg1
 refine Qb Qas Qary ?_
 refine Qa ?_
 simp only [go_sem]
 refine Qar ?_
 simp only [go_sem, hw, LS.o, hbc, hy, hat, Nat.zero_add, List.length_map]
 refine Qa ?_
 simp only [go_sem, hw, LS.o, hbc, hy, hat, hg2, Blk.row, hiow, Nat.zero_add, List.length_map]
 refine h.addIns hat hbc hlb ⟨op, to, n, fl, args, rfl⟩ (by simp only [LIM]; omega) fun z H1 hw1 hy1 cont => ?_
 simp only [go_sem, Qs3, hy1, hg1, hat, Blk.row, Nat.zero_add, List.length_map]
 intro H2 h2
 obtain ⟨b', hb', h'⟩ := cont H2 h2
 refine Qa ?_
 simp only [go_sem]
 refine Qj ?_
 simp only [go_sem, Qz, Q9, Q7w, reduceIte, List.mem_singleton, forall_eq, RS.op]
 refine hK _ H2 h' ⟨by simp, fun M hM => ⟨hM.r0, ?_, hM.n0, ?_, ?_, ?_, ?_⟩, Nat.le_refl _, fun ha => by simp; show s.at_ < _; omega, rfl, rfl⟩
 ·have := hM.r1; show s.regs ≤ _; omega
 ·have := hM.n1; show s.next ≤ _; omega
 ·have := hM.b1; simp; omega
 ·intro b hb
  rcases Qd2 hb with rfl | hb
  ·have := hM.i1 _ hm; omega
  ·have := hM.i1 b hb; omega
 ·have := hM.v1; show s.vars.length ≤ _; omega
theorem Qrx {N : Nat} {kind on : Int} {at' : Nat} {fl : Bool} {next : List Int} (h : LInv F H w s) (hat : s.at_ < s.blocks.length) (hat' : at' < s.blocks.length)
  (hK : ∀ (s' : LS) (H' : Heap), LInv F H' w s' → LStep s s' 0 → K (.tup []) H') :
  Qo prog Qaw [.c (.ptr w 0), .c (.int .i64 kind), .c (.int .i64 on), .c (.sl fl 1 (Qh next)), .c (.int .i64 at')] H K := by
 have hw := h.hw
 obtain ⟨y, hbc, hlb, hy⟩ := h.bvec (by omega)
 have hm := List.getElem_mem hat
 have hg1 : List.getD (List.map Blk.row s.blocks) s.at_ [] = s.blocks[s.at_].row := by simp [List.getD_eq_getElem?_getD, hat]
 refine Qb Qas Qam7 ?_
 refine Qar ?_
 simp only [go_sem, hw, LS.o, hbc, hy, hat, Nat.zero_add, List.length_map]
 refine Qa ?_
 simp only [go_sem, hy, hg1, hat, Blk.row, Nat.zero_add, List.length_map]
 intro H1 h1
 have h1 : H1 = H.set y (.vec 5 ((s.blocks.set s.at_ { s.blocks[s.at_] with jump := kind }).map Blk.row)) := by rw [h1, ← Q7b]; rfl
 have hv := h.setBlk hat hbc hlb h1 rfl rfl rfl
 obtain ⟨b1, hb1, hb1l, hb1i⟩ : ∃ b1 : Blk, b1 = { s.blocks[s.at_] with jump := kind } ∧ b1.irows = s.blocks[s.at_].irows ∧ b1.ic = s.blocks[s.at_].ic := ⟨_, rfl, rfl, rfl⟩
 rw [← hb1] at hv h1
 have hy1 : H1 y = .vec 5 ((s.blocks.set s.at_ b1).map Blk.row) := by rw [h1]; exact Heap.set_same _ _ _
 have hg2 : List.getD ((s.blocks.set s.at_ b1).map Blk.row) s.at_ [] = b1.row := by simp [List.getD_eq_getElem?_getD, hat]
 refine Qa ?_
 simp only [go_sem, hy1, hg2, hat, Blk.row, Nat.zero_add, List.length_map, List.length_set]
 intro H2 h2
 have h2 : H2 = H1.set y (.vec 5 (((s.blocks.set s.at_ b1).set s.at_ { b1 with on := on }).map Blk.row)) := by rw [h2]; simp only [List.map_set]; rfl
 have hv := hv.setBlk (i := s.at_) (b' := { b1 with on := on }) (by simpa using hat) (by simpa using hbc) (by rfl) h2 (by simp) (by simp) (by simp)
 simp only [List.set_set] at hv h2
 obtain ⟨b2, hb2, hb2i⟩ : ∃ b2 : Blk, b2 = { b1 with on := on } ∧ b2.irows = b1.irows := ⟨_, rfl, rfl⟩
 rw [← hb2] at hv h2
 have hy2 : H2 y = .vec 5 ((s.blocks.set s.at_ b2).map Blk.row) := by rw [h2]; exact Heap.set_same _ _ _
 have hg3 : List.getD ((s.blocks.set s.at_ b2).map Blk.row) s.at_ [] = b2.row := by simp [List.getD_eq_getElem?_getD, hat]
 refine Qa ?_
 simp only [go_sem, hy2, hg3, hat, Blk.row, Nat.zero_add, List.length_map, List.length_set]
 intro H3 h3
 have h3 : H3 = H2.set y (.vec 5 (((s.blocks.set s.at_ b2).set s.at_ { b2 with next := next, nfl := fl }).map Blk.row)) := by rw [h3]; simp only [List.map_set]; rfl
 have hv := hv.setBlk (i := s.at_) (b' := { b2 with next := next, nfl := fl }) (by simpa using hat) (by simpa using hbc) (by rfl) h3 (by simp) (by simp) (by simp)
 simp only [List.set_set] at hv
 have hw3 := hv.hw
 refine Qp ?_
 simp only [go_sem, hw3, LS.o]
 intro H4 h4
 have h' := hv.setw (s' := { s with lb := [(y, .vec 5 ((s.blocks.set s.at_ { b2 with next := next, nfl := fl }).map Blk.row))], blocks := s.blocks.set s.at_ { b2 with next := next, nfl := fl }, at_ := at' }) h4 rfl rfl rfl rfl hv.gv hv.rv
 simp only [Qz, Q9, Q1e]
 refine ⟨by simp, hK _ H4 h' ⟨by simp, fun M hM => ⟨hM.r0, hM.r1, hM.n0, hM.n1, ?_, ?_, hM.v1⟩, Nat.le_refl _, fun ha => by simpa using hat', rfl, rfl⟩⟩
 ·have := hM.b1; simpa using this
 ·intro b hb
  rcases Qd2 hb with rfl | hb
  ·show b2.irows.length ≤ _
   rw [hb2i, hb1l]; exact hM.i1 _ hm
  ·exact hM.i1 b hb
end Go.AE.Y

namespace Go.AE.Y
open Go.Proofs.Tryz
variable {F H : Heap} {w : Nat} {s : LS} {K : V → Heap → Prop}
theorem Qbbe {l : List Fn} {fl : Bool} {name : List UInt8} (hK : ∀ n : Int, K (.c (.int .i64 n)) H) : Qo prog Qx6 [.ag [.sl fl 3 (Qby l)], .c (.str name)] H K := by
 refine Qb Qas Qa3k ?_
 have retf : ∀ (n : Int) (e : Env), lk 4 e = .c (.int .i64 n) → Qz Q7x K .ret e H := by
  intro b e h1
  simp only [go_sem, Qz, Q9, Q7x, List.mem_singleton, forall_eq, RS.op, h1]
  exact hK _
 refine Qa ?_
 simp only [go_sem]
 refine Q2 ?_
 refine Qa ?_
 simp only [go_sem]
 refine Qg (Qc (Qt (fun n e1 H1 => ∃ (i : Nat), n = l.length - i ∧ i ≤ l.length ∧ H1 = H ∧ e1 = [(1, .c (.str name)), (2, .c (.pp [.sl fl 3 (Qby l)])), (5, .c (.int .i64 i))]) l.length ?_ ?_))
 ·exact ⟨0, by omega, by omega, rfl, rfl⟩
 ·rintro n e1 H1 ⟨i, hn1, hi, rfl, rfl⟩
  refine Q2 ?_
  refine Qa ?_
  simp only [go_sem, Qa9]
  intro hl
  simp only [LIM] at hl
  refine Qg (Qd rfl ?_ ?_)
  ·intro hc
   have hlt : i < l.length := by simpa using hc
   refine Qf ?_
   simp only [go_sem]
   refine Qg (Qc ?_)
   refine Qa ?_
   simp only [go_sem, hlt, Qa9, Qfj _ _ hlt, Fn.cells]
   refine Qd rfl ?_ ?_
   ·intro hc2
    refine Qa ?_
    simp only [go_sem]
    refine Qj ?_
    simp only [go_sem, X.next]
    exact retf _ _ (by simp [lk]; rfl)
   ·intro hc2
    refine Qf ?_
    simp only [go_sem]
    refine Qp ?_
    simp only [go_sem, X.next]
    exact ⟨Qn (by omega) (by omega), l.length - (i + 1), by omega, i + 1, rfl, by omega, rfl⟩
  ·intro hc
   refine Qs ?_
   simp only [go_sem, X.next]
   refine Qa ?_
   simp only [go_sem]
   refine Qj ?_
   exact retf _ _ (by simp [lk]; rfl)
theorem Qbb7 {name : List UInt8} (h : LInv F H w s) (hK : ∀ n : Int, K (.c (.int .i64 n)) H) : Qo prog Qg0 [.c (.ptr w 0), .c (.str name)] H K := by
 have hw := h.hw
 obtain ⟨hv1, hv2⟩ := h.vget
 have hvl := h.gv.lenC
 have hve := h.gv.elemSz
 have hvo := h.gv.isOw
 refine Qb Qas Qarz ?_
 have retf : ∀ (n : Int) (e : Env), lk 4 e = .c (.int .i64 n) → Qz Qti K .ret e H := by
  intro b e h1
  simp only [go_sem, Qz, Q9, Qti, List.mem_singleton, forall_eq, RS.op, h1]
  exact hK _
 refine Qa ?_
 simp only [go_sem]
 refine Q2 ?_
 refine Qa ?_
 simp only [go_sem, hw, LS.o, hv1, hvl, hvo]
 intro hl
 simp only [LIM] at hl
 refine ⟨Qn (by omega) (by omega), ?_⟩
 refine Qg (Qc (Qt (fun n e1 H1 => ∃ (j : Nat), n = j ∧ j ≤ s.vars.length ∧ H1 = H ∧ e1 = [(0, .c (.ptr w 0)), (1, .c (.str name)), (5, .c (.int .i64 ((j : Int) - 1)))]) s.vars.length ?_ ?_))
 ·exact ⟨s.vars.length, rfl, by omega, rfl, rfl⟩
 ·rintro n e1 H1 ⟨j, hnj, hj, rfl, rfl⟩
  refine Q2 ?_
  refine Qa ?_
  simp only [go_sem]
  refine Qg (Qd rfl ?_ ?_)
  ·intro hc
   have hj1 : 1 ≤ j := by simp at hc; omega
   obtain ⟨i, rfl⟩ : ∃ i, j = i + 1 := ⟨j - 1, by omega⟩
   have e1 : (((i + 1 : Nat) : Int) - 1) = (i : Int) := by omega
   have hlt : i < s.vars.length := by omega
   obtain ⟨nm, a, b, hr⟩ := h.rv _ (List.getElem_mem hlt)
   have hr' : List.getD s.vars i [] = [.str nm, .int .i64 a, .int .i64 b] := by rw [← hr]; simp [List.getD_eq_getElem?_getD, hlt]
   rw [e1] at hc ⊢
   refine Qf ?_
   simp only [go_sem]
   refine Qg (Qc ?_)
   refine Qa ?_
   simp only [go_sem, hw, LS.o, hv1, hv2, hvl, hvo, hve, hlt, hr']
   refine Qd rfl ?_ ?_
   ·intro hc2
    refine Qa ?_
    simp only [go_sem, hw, LS.o, hv1, hv2, hvl, hvo, hve, hlt, hr']
    refine Qj ?_
    simp only [go_sem, X.next]
    exact retf _ _ (by simp [lk]; rfl)
   ·intro hc2
    refine Qf ?_
    simp only [go_sem]
    refine Qp ?_
    simp only [go_sem, X.next]
    exact ⟨Qn (by omega) (by omega), i, by omega, i, rfl, by omega, rfl⟩
  ·intro hc
   refine Qs ?_
   simp only [go_sem, X.next]
   refine Qa ?_
   simp only [go_sem]
   refine Qj ?_
   exact retf _ _ (by simp [lk]; rfl)
def Qa5r (n : Nat) : Prop := ∀ (x : Ex) (F H : Heap) (w : Nat) (s : LS) (N : Nat) (K : V → Heap → Prop), x.size ≤ n → x.ok → LInv F H w s → s.at_ < s.blocks.length → s.ok N → N + 10 * x.size ≤ 2^38 →
  (∀ (v : Int) (s' : LS) (H' : Heap), LInv F H' w s' → LStep s s' (10 * x.size) → K (.c (.int .i64 v)) H') → Qo prog Qbx [.c (.ptr w 0), .ag x.cells] H K
def AndL (n : Nat) : Prop := ∀ (x : Ex) (F H : Heap) (w : Nat) (s : LS) (N : Nat) (K : V → Heap → Prop), x.size ≤ n → x.ok → x.op = 10 → LInv F H w s → s.at_ < s.blocks.length → s.ok N → N + 10 * x.size ≤ 2^38 →
  (∀ (v : Int) (s' : LS) (H' : Heap), LInv F H' w s' → LStep s s' (10 * x.size) → K (.c (.int .i64 v)) H') → Qo prog Qoo [.c (.ptr w 0), .ag x.cells] H K
theorem Qbbh {n : Nat} (hE : ∀ m, m < n → Qa5r m) : AndL n := by
 intro x F H w s N K hn hok hop h hat hsok hN hK
 have hsz := x.size_kids
 have hk2 := Ex.ok_and hok hop
 have hkok := Ex.ok_kids hok
 obtain ⟨a, b, hab⟩ : ∃ a b, x.kids = [a, b] := by
  match hx : x.kids, hk2 with
  | [a, b], _ => exact ⟨a, b, rfl⟩
 rw [hab] at hsz hkok
 simp only [Qab, Qdc] at hsz hkok
 refine Qb Qas Qarx ?_
 refine Qa ?_
 simp only [go_sem, x.cells_eq]
 refine Qa ?_
 simp only [go_sem, hab, Qbh, Ex.take4, Ex.allOw, Ex.cells_len, List.getD_cons_zero]
 refine ⟨by omega, ?_⟩
 refine hE a.size (by omega) a F H w s N _ (Nat.le_refl _) hkok.1 h hat hsok (by omega) fun va s1 H1 h1 st1 => ?_
 simp only [go_sem, Qsv]
 refine Qa ?_
 simp only [go_sem]
 refine Qos h1 (st1.ok _ hsok) (by omega) fun s2 H2 h2 st2 => ?_
 have st2 := st1.trans st2
 simp only [go_sem, Qsx]
 refine Qyi (args := []) h2 (st2.at_ hat) (st2.ok _ hsok) (by omega) fun s3 H3 h3 st3 => ?_
 have st3 := st2.trans st3
 simp only [go_sem, Qsw]
 refine Qa ?_
 simp only [go_sem]
 refine Qe7 h3 (st3.ok _ hsok) (by omega) fun s4 H4 h4 st4 hb4 => ?_
 have st4' := st4
 have st4 := st3.trans st4
 simp only [go_sem, Qsy]
 refine Qa ?_
 simp only [go_sem]
 refine Qe7 h4 (st4.ok _ hsok) (by omega) fun s5 H5 h5 st5 hb5 => ?_
 have st5 := st4.trans st5
 simp only [go_sem, Qsz]
 refine Qa ?_
 simp only [go_sem]
 refine Qrx (next := [(s3.blocks.length : Int), (s4.blocks.length : Int)]) (N := 0) h5 (st5.at_ hat) (by omega) fun s6 H6 h6 st6 => ?_
 have hb6 := st6.bl
 have st6 := st5.trans st6
 refine Qa ?_
 simp only [go_sem, hab, Qbh, Ex.take4, Ex.allOw, Ex.cells_len, List.getD_cons_zero, List.getD_cons_succ]
 refine ⟨by omega, ?_⟩
 refine hE b.size (by omega) b F H6 w s6 _ _ (Nat.le_refl _) hkok.2.1 h6 (st6.at_ hat) (st6.ok _ hsok) (by omega) fun vb s7 H7 h7 st7 => ?_
 have hb7 := st7.bl
 have st7 := st6.trans st7
 simp only [go_sem, Qs0]
 refine Qa ?_
 simp only [go_sem]
 refine Qos h7 (st7.ok _ hsok) (by omega) fun s8 H8 h8 st8 => ?_
 have hb8 := st8.bl
 have st8 := st7.trans st8
 simp only [go_sem, Qs2]
 refine Qyi (args := [vb]) h8 (st8.at_ hat) (st8.ok _ hsok) (by omega) fun s9 H9 h9 st9 => ?_
 have hb9 := st9.bl
 have st9 := st8.trans st9
 simp only [go_sem, Qs1]
 refine Qa ?_
 simp only [go_sem]
 refine Qyi (args := [s7.regs]) h9 (st9.at_ hat) (st9.ok _ hsok) (by omega) fun s10 H10 h10 st10 => ?_
 have hb10 := st10.bl
 have st10 := st9.trans st10
 refine Qa ?_
 simp only [go_sem]
 refine Qrx (next := [(s4.blocks.length : Int)]) (N := 0) h10 (st10.at_ hat) (by omega) fun s11 H11 h11 st11 => ?_
 have st11 := st10.trans st11
 refine Qa ?_
 simp only [go_sem]
 refine Qj ?_
 simp only [go_sem, Qz, Q9, Q7v, reduceIte, List.mem_singleton, forall_eq, RS.op]
 exact hK _ s11 H11 h11 (st11.mono (by omega))
end Go.AE.Y

namespace Go.AE.Y
open Go.Proofs.Tryz
variable {F H : Heap} {w : Nat} {s : LS} {K : V → Heap → Prop}
set_option maxHeartbeats 2000000 in
theorem Qa9v {n : Nat} (hA : AndL n) (hE : ∀ m, m < n → Qa5r m) : Qa5r n := by
 intro x F H w s N K hn hok h hat hsok hN hK
 have hsz := x.size_kids
 have hkok := Ex.ok_kids hok
 refine Qb Qas Qam6 ?_
 have retf : ∀ (v : Int) (e : Env) (s' : LS) (H' : Heap), LInv F H' w s' → LStep s s' (10 * x.size) → lk 4 e = .c (.int .i64 v) → Qz Qo2 K .ret e H' := by
  intro v e s' H' a1 a2 h1
  simp only [go_sem, Qz, Q9, Qo2, List.mem_singleton, forall_eq, RS.op, h1]
  exact hK _ _ _ a1 a2
 refine Qa ?_
 simp only [go_sem, x.cells_eq]
 refine Q2 ?_
 refine Qa ?_
 simp only [go_sem]
 refine Qg (Qc ?_)
 refine Qa ?_
 simp only [go_sem]
 refine Qd rfl ?_ ?_
 ·intro hc
  refine Qar ?_
  simp only [go_sem]
  refine Qos h hsok (by omega) fun s1 H1 h1 st1 => ?_
  simp only [go_sem, Qqf]
  refine Qyi (args := []) h1 (st1.at_ hat) (st1.ok _ hsok) (by omega) fun s2 H2 h2 st2 => ?_
  simp only [go_sem, Qqe]
  refine Qj ?_
  simp only [go_sem]
  exact retf _ _ s2 H2 h2 ((st1.trans st2).mono (by omega)) (by simp [lk]; rfl)
 intro hc1
 refine Qa ?_
 simp only [go_sem]
 refine Qd rfl ?_ ?_
 ·intro hc
  refine Qa ?_
  simp only [go_sem]
  refine Qbb7 h fun v => ?_
  simp only [go_sem, Qqg]
  refine Qj ?_
  simp only [go_sem]
  exact retf _ _ s H h ((LStep.refl s).mono (by omega)) (by simp [lk]; rfl)
 intro hc2
 refine Qa ?_
 simp only [go_sem]
 refine Qd rfl ?_ ?_
 ·intro hc
  have hop : x.op = 10 := by simpa using hc
  refine Qa ?_
  simp only [go_sem]
  rw [← x.cells_eq]
  refine hA x F H w s N _ hn hok hop h hat hsok hN fun v s1 H1 h1 st1 => ?_
  simp only [go_sem, Qqh]
  refine Qj ?_
  simp only [go_sem]
  exact retf _ _ s1 H1 h1 st1 (by simp [lk]; rfl)
 intro hc3
 refine Qf ?_
 simp only [go_sem]
 refine Qa ?_
 simp only [go_sem]
 refine Q2 ?_
 refine Qa ?_
 simp only [go_sem]
 refine Qg (Qc (Qt (fun n e1 H1 => ∃ (i : Nat) (ars : List Int) (c : C) (Lg : List (Nat × Obj)) (s' : LS), n = x.kids.length - i ∧ i ≤ x.kids.length ∧ ars.length = i ∧ Gr Lg 1 (Qh ars) c ∧ LInv F H1 w s' ∧ Kn F H1 [] (s'.L w ++ Lg) ∧
  LStep s s' (10 * Qab (x.kids.take i)) ∧ e1 = [(0, .c (.ptr w 0)), (3, .c (.pp [.int .i64 x.op, .int .i64 x.n, .str x.name, .sl false 4 (Qbh x.kids)])), (5, .c c), (6, .c (.int .i64 i))]) x.kids.length ?_ ?_))
 ·exact ⟨0, [], _, [], s, by omega, by omega, rfl, .nil 1, h, by simpa using h.kn, (LStep.refl s).mono (by omega), rfl⟩
 ·rintro n e1 H1 ⟨i, ars, c, Lg, s1, hn1, hi, hasl, hgr, h1, kn, st1, rfl⟩
  refine Q2 ?_
  refine Qa ?_
  simp only [go_sem, Qaz]
  intro hl
  simp only [LIM] at hl
  refine Qg (Qd rfl ?_ ?_)
  ·intro hc
   have hlt : i < x.kids.length := by simpa using hc
   have hm := Qdz (List.getElem_mem hlt)
   have htk := Qog hlt
   have htl := Qfm x.kids (i + 1)
   refine Qf ?_
   simp only [go_sem]
   refine Qg (Qc (Qp ?_))
   simp only [go_sem, hlt, Qaz, Qdy _ _ hlt, Ex.take4, Ex.allOw, Ex.cells_len]
   obtain ⟨F', hf, back⟩ := h1.beside kn hgr
   refine hE x.kids[i].size (by omega) _ F' H1 w s1 _ _ (Nat.le_refl _) (Q6d hkok _ (List.getElem_mem hlt)) hf (st1.at_ hat) (st1.ok _ hsok) (by omega) fun v s2 H2 h2 st2 => ?_
   obtain ⟨h2, kn⟩ := back s2 H2 h2
   simp only [go_sem, Qqj]
   refine kn.grow (new := Qh [v]) hgr (.mk' _ _ _ _) (Q6 _) (by simp only [Qe, hasl, List.length_cons, List.length_nil, LIM]; omega) fun y' H3 kn => ?_
   simp only [go_sem, Qqi]
   refine Qp ?_
   simp only [go_sem, X.next]
   refine ⟨Qn (by omega) (by omega), x.kids.length - (i + 1), by omega, i + 1, ars ++ [v], _, _, s2, rfl, by omega, by simp [hasl], .mk y' 1 (Qh (ars ++ [v])) (n := (Qh ars).length + (Qh [v]).length) (by simp [Qh]), h2.re kn.drop, by rw [Qc5]; exact kn, (st1.trans st2).mono (by rw [htk]; omega), by simp [Qh]⟩
  ·intro hc
   have hge : x.kids.length ≤ i := by simpa using hc
   rw [List.take_of_length_le hge] at st1
   refine Qs ?_
   simp only [go_sem, X.next]
   refine Q2 ?_
   refine Q2 ?_
   obtain ⟨S, H2, f1, f2, kn2⟩ := hgr.freeze kn (Q6 _)
   have h2 := h1.re kn2
   refine c_gh (Qx7 S (fun t => ?_) f2) (e' := [(0, .c (.ptr w 0)), (3, .c (.pp [.int .i64 x.op, .int .i64 x.n, .str x.name, .sl false 4 (Qbh x.kids)])), (5, .c (.sl false 1 (Qh ars)))]) ?_
   ·simp only [lk]
    split
    ·exact .c _ _ (.same _ rfl)
    ·split
     ·exact .c _ _ (.same _ rfl)
     ·split
      ·exact .c _ _ f1
      ·exact .unk _
   refine Qa ?_
   simp only [go_sem]
   refine Qg (Qc ?_)
   refine Qa ?_
   simp only [go_sem]
   refine Qd rfl ?_ ?_
   ·intro hc
    refine Qa ?_
    simp only [go_sem]
    refine Qos h2 (st1.ok _ hsok) (by omega) fun s3 H3 h3 st3 => ?_
    have st3 := st1.trans st3
    simp only [go_sem, Qmu]
    refine Qyi h3 (st3.at_ hat) (st3.ok _ hsok) (by omega) fun s4 H4 h4 st4 => ?_
    simp only [go_sem, Qmt]
    refine Qj ?_
    simp only [go_sem]
    exact retf _ _ s4 H4 h4 ((st3.trans st4).mono (by omega)) (by simp [lk]; rfl)
   intro hc4
   refine Qa ?_
   simp only [go_sem]
   refine Qd rfl ?_ ?_
   ·intro hc
    refine Qa ?_
    simp only [go_sem]
    refine Qos h2 (st1.ok _ hsok) (by omega) fun s3 H3 h3 st3 => ?_
    have st3 := st1.trans st3
    simp only [go_sem, Qmw]
    refine Qyi h3 (st3.at_ hat) (st3.ok _ hsok) (by omega) fun s4 H4 h4 st4 => ?_
    simp only [go_sem, Qmv]
    refine Qj ?_
    simp only [go_sem]
    exact retf _ _ s4 H4 h4 ((st3.trans st4).mono (by omega)) (by simp [lk]; rfl)
   intro hc5
   refine Qa ?_
   simp only [go_sem]
   refine Qd rfl ?_ ?_
   ·intro hc
    have hw2 := h2.hw
    refine Qar ?_
    simp only [go_sem, hw2, LS.o]
    refine Qos h2 (st1.ok _ hsok) (by omega) fun s3 H3 h3 st3 => ?_
    have hw3 := h3.hw
    have hfn := st3.fn
    have st3 := st1.trans st3
    simp only [go_sem, Qmz, hw3, LS.o, hfn.1, hfn.2]
    refine Qbbe fun q => ?_
    simp only [go_sem, Qmy]
    refine Qyi h3 (st3.at_ hat) (st3.ok _ hsok) (by omega) fun s4 H4 h4 st4 => ?_
    simp only [go_sem, Qmx]
    refine Qj ?_
    simp only [go_sem]
    exact retf _ _ s4 H4 h4 ((st3.trans st4).mono (by omega)) (by simp [lk]; rfl)
   intro hc6
   refine Qf ?_
   simp only [go_sem]
   refine Qar ?_
   simp only [go_sem]
   refine Qos h2 (st1.ok _ hsok) (by omega) fun s3 H3 h3 st3 => ?_
   have st3 := st1.trans st3
   simp only [go_sem, Qm1]
   refine Qyi h3 (st3.at_ hat) (st3.ok _ hsok) (by omega) fun s4 H4 h4 st4 => ?_
   simp only [go_sem, Qm0]
   refine Qj ?_
   exact retf _ _ s4 H4 h4 ((st3.trans st4).mono (by omega)) (by simp [lk]; rfl)
theorem Qbbt (n : Nat) : Qa5r n := by
 induction n using Nat.strongRecOn with
 | ind n ih => exact Qa9v (Qbbh ih) ih
end Go.AE.Y

namespace Go.AE.Y
open Go.Proofs.Tryz
variable {F H : Heap} {w : Nat} {s : LS} {K : V → Heap → Prop}
theorem Qa6w : ∀ (n : Nat) (l : List St) {fl : Bool} {H : Heap} {K : V → Heap → Prop}, Qv l ≤ n → Qv l ≤ 2^40 → (∀ v : Nat, v ≤ Qv l → K (.c (.int .i64 v)) H) → Qo prog Qon [.c (.sl fl 5 (Qax l))] H K := by
 intro n
 induction n using Nat.strongRecOn with
 | ind n ih =>
 intro l fl H K hn hb hK
 have hlen := Qadf l
 refine Qb Qas Qa7g ?_
 refine Qa ?_
 simp only [go_sem]
 refine Qa ?_
 simp only [go_sem]
 refine Q2 ?_
 refine Qa ?_
 simp only [go_sem]
 refine Qg (Qc (Qt (fun n e1 H1 => ∃ (i v : Nat), n = l.length - i ∧ i ≤ l.length ∧ v ≤ Qv (l.take i) ∧ H1 = H ∧ e1 = [(0, .c (.sl fl 5 (Qax l))), (3, .c (.int .i64 v)), (4, .c (.int .i64 i))]) l.length ?_ ?_))
 ·exact ⟨0, 0, by omega, by omega, by omega, rfl, rfl⟩
 ·rintro n e1 H1 ⟨i, v, hn1, hi, hv, rfl, rfl⟩
  refine Q2 ?_
  refine Qa ?_
  simp only [go_sem, Qa3]
  intro hl
  simp only [LIM] at hl
  refine Qg (Qd rfl ?_ ?_)
  ·intro hc
   have hlt : i < l.length := by simpa using hc
   have hm := Qln (List.getElem_mem hlt)
   have htk := Qq6 hlt
   have htl := Qgs l (i + 1)
   have hse := (l[i]'hlt).size_eq
   refine Qf ?_
   simp only [go_sem]
   refine Qg (Qc (Qb4 ?_))
   simp only [go_sem, hlt, Qa3, Qeb _ _ hlt, St.cells_eq]
   refine Qa2w ?_
   obtain ⟨t, ht, ht1⟩ : ∃ t : Nat, (if decide (l[i].op = 1) = true then (1 : Int) else 0) = t ∧ t ≤ 1 := by
    by_cases h : l[i].op = 1
    ·exact ⟨1, by simp [h], Nat.le_refl _⟩
    ·exact ⟨0, by simp [h], by omega⟩
   simp only [go_sem, Qabm, hlt, Qa3, Qeb _ _ hlt, St.cells_eq, ht]
   refine ⟨Qn (by omega) (by omega), ?_⟩
   refine ih (Qv l[i].body) (by omega) l[i].body (Nat.le_refl _) (by omega) fun a ha => ?_
   simp only [go_sem, Qabl, hlt, Qa3, Qeb _ _ hlt, St.cells_eq]
   refine ⟨Qn (by omega) (by omega), ?_⟩
   refine ih (Qv l[i].els) (by omega) l[i].els (Nat.le_refl _) (by omega) fun c hc => ?_
   simp only [go_sem, Qabk]
   refine ⟨Qn (by omega) (by omega), ?_⟩
   refine Qp ?_
   simp only [go_sem, X.next]
   refine ⟨Qn (by omega) (by omega), l.length - (i + 1), by omega, i + 1, v + t + a + c, rfl, by omega, by omega, rfl⟩
  ·intro hc
   have hge : l.length ≤ i := by simpa using hc
   refine Qs ?_
   simp only [go_sem, X.next]
   refine Qa ?_
   simp only [go_sem]
   refine Qj ?_
   simp only [go_sem, Qz, Q9, Qax9, reduceIte, List.mem_singleton, forall_eq, RS.op]
   rw [List.take_of_length_le hge] at hv
   exact hK v (by omega)
def Qbbf (n : Nat) : Prop := ∀ (x : St) (F H : Heap) (w : Nat) (s : LS) (N : Nat) (K : V → Heap → Prop), x.size ≤ n → x.ok → LInv F H w s → s.at_ < s.blocks.length → s.ok N → N + 10 * x.size ≤ 2^38 →
  (∀ (s' : LS) (H' : Heap), LInv F H' w s' → LStep s s' (10 * x.size) → K (.tup []) H') → Qo prog Qkt [.c (.ptr w 0), .ag x.cells] H K
def Qbco (n : Nat) : Prop := ∀ (x : St) (F H : Heap) (w : Nat) (s : LS) (N : Nat) (K : V → Heap → Prop), x.size ≤ n → x.ok → LInv F H w s → s.at_ < s.blocks.length → s.ok N → N + 10 * x.size ≤ 2^38 →
  (∀ (s' : LS) (H' : Heap), LInv F H' w s' → LStep s s' (10 * x.size) → K (.tup []) H') → Qo prog Qks [.c (.ptr w 0), .ag x.cells] H K
def Qaxi (n : Nat) : Prop := ∀ (l : List St) (fl : Bool) (F H : Heap) (w : Nat) (s : LS) (N : Nat) (K : V → Heap → Prop), Qv l ≤ n → Qcm l → LInv F H w s → s.at_ < s.blocks.length → s.ok N → N + 10 * Qv l ≤ 2^38 →
  (∀ (s' : LS) (H' : Heap), LInv F H' w s' → LStep s s' (10 * Qv l) → K (.tup []) H') → Qo prog Qb7 [.c (.ptr w 0), .c (.sl fl 5 (Qax l))] H K
theorem Qa5h {n : Nat} (hS : Qbbf n) : Qaxi n := by
 intro l fl F H w s N K hn hok h hat hsok hN hK
 have hw := h.hw
 obtain ⟨hv1, hv2⟩ := h.vget
 have hvl := h.gv.lenC
 have hvo := h.gv.isOw
 refine Qb Qas Qajm ?_
 refine Qa ?_
 simp only [go_sem, hw, LS.o, hv1, hvl, hvo]
 intro hvlim
 refine Q2 ?_
 refine Qa ?_
 simp only [go_sem]
 refine Qg (Qc (Qt (fun n e1 H1 => ∃ (i : Nat) (s' : LS), n = l.length - i ∧ i ≤ l.length ∧ LInv F H1 w s' ∧ LStep s s' (10 * Qv (l.take i)) ∧ e1 = [(0, .c (.ptr w 0)), (1, .c (.sl fl 5 (Qax l))), (4, .c (.int .i64 s.vars.length)), (5, .c (.int .i64 i))]) l.length ?_ ?_))
 ·exact ⟨0, s, by omega, by omega, h, (LStep.refl s).mono (by omega), rfl⟩
 ·rintro n e1 H1 ⟨i, s1, hn1, hi, h1, st1, rfl⟩
  refine Q2 ?_
  refine Qa ?_
  simp only [go_sem, Qa3]
  intro hl
  simp only [LIM] at hl
  refine Qg (Qd rfl ?_ ?_)
  ·intro hc
   have hlt : i < l.length := by simpa using hc
   have hm := Qln (List.getElem_mem hlt)
   have htk := Qq6 hlt
   have htl := Qgs l (i + 1)
   refine Qf ?_
   simp only [go_sem]
   refine Qg (Qc (Qp ?_))
   simp only [go_sem, hlt, Qa3, Qeb _ _ hlt, St.take5, St.allOw, St.cells_len]
   refine hS l[i] F H1 w s1 _ _ (by omega) (Qa5k hok _ (List.getElem_mem hlt)) h1 (st1.at_ hat) (st1.ok _ hsok) (by omega) fun s2 H2 h2 st2 => ?_
   refine Qp ?_
   simp only [go_sem, X.next]
   exact ⟨Qn (by omega) (by omega), l.length - (i + 1), by omega, i + 1, s2, rfl, by omega, h2, (st1.trans st2).mono (by rw [htk]; omega), rfl⟩
  ·intro hc
   have hge : l.length ≤ i := by simpa using hc
   rw [List.take_of_length_le hge] at st1
   have hw1 := h1.hw
   obtain ⟨hv1', hv2'⟩ := h1.vget
   have hvl' := h1.gv.lenC
   have hvo' := h1.gv.isOw
   have hve' := h1.gv.elemSz
   have hvle := st1.vl
   have hrv : ∀ r ∈ s1.vars.take s.vars.length, VarRow r := fun r hr => h1.rv r (List.mem_of_mem_take hr)
   have fin : ∀ (H2 : Heap) (c : C), H2 = H1.set w (LS.o { s1 with vc := c }) → VGr s1.lv (s1.vars.take s.vars.length) c → Qz Qk4 K .nrm [] H2 := by
    intro H2 c h2 hg
    simp only [Qz, Q9, Qk4]
    refine ⟨by simp, hK { s1 with vc := c, vars := s1.vars.take s.vars.length } H2 (h1.setw h2 rfl rfl rfl rfl hg hrv) ⟨st1.bl, fun M hM => ?_, by simp; omega, st1.at_, st1.fn⟩⟩
    have := st1.ok M hM
    exact ⟨this.r0, this.r1, this.n0, this.n1, this.b1, this.i1, by have := this.v1; simp; omega⟩
   refine Qs ?_
   simp only [go_sem, X.next]
   refine Qp ?_
   rcases h1.gv with ⟨g1, g2, g3⟩ | ⟨y, all, k, g1, g2, g3, g4⟩
   ·have hz : s.vars.length = 0 := by rw [g2] at hvle; simpa using hvle
    simp only [go_sem, hw1, LS.o, g1, hz, List.take_nil, List.drop_nil]
    refine ⟨⟨by omega, by omega⟩, fun H2 h2 => ?_⟩
    refine fin H2 (.sl true 3 []) h2 (.inl ⟨rfl, by rw [g2]; simp, g3⟩)
   ·rw [g1] at hv1' hvl'
    have hk : k = s1.vars.length := by simpa [lenC] using hvl'
    simp only [go_sem] at hv1'
    simp only [go_sem, hw1, LS.o, g1, hv1']
    refine ⟨⟨by omega, by omega⟩, fun H2 h2 => ?_⟩
    refine fin H2 (.vsl y 3 0 (s.vars.length - 0)) h2 (.inr ⟨y, all, s.vars.length - 0, rfl, by omega, ?_, g4⟩)
    rw [g3, List.take_take]; congr 1; omega
end Go.AE.Y

namespace Go.AE.Y
open Go.Proofs.Tryz
variable {F H : Heap} {w : Nat} {s : LS} {K : V → Heap → Prop}
set_option maxHeartbeats 1000000 in
theorem Qa6z {n : Nat} (hS : ∀ m, m < n → Qaxi m) : Qbco n := by
 intro x F H w s N K hn hok h hat hsok hN hK
 have hsz := x.size_eq
 rw [St.ok_eq] at hok
 obtain ⟨hap, hao, hbo, heo⟩ := hok
 have ham := Qdz (List.getElem_mem hap)
 refine Qb Qas Qam8 ?_
 refine Qa ?_
 simp only [go_sem, x.cells_eq]
 refine Qa ?_
 simp only [go_sem]
 refine Qe7 h hsok (by omega) fun s1 H1 h1 st1 hb1 => ?_
 simp only [go_sem, Qqk]
 refine Qa ?_
 simp only [go_sem]
 refine Qe7 h1 (st1.ok _ hsok) (by omega) fun s2 H2 h2 st2 hb2 => ?_
 have st2 := st1.trans st2
 simp only [go_sem, Qql]
 refine Qa ?_
 simp only [go_sem]
 refine Qe7 h2 (st2.ok _ hsok) (by omega) fun s3 H3 h3 st3 hb3 => ?_
 have st3 := st2.trans st3
 simp only [go_sem, Qqm]
 refine Qa ?_
 simp only [go_sem]
 refine Qrx (next := [(s.blocks.length : Int)]) (N := 0) h3 (st3.at_ hat) (by omega) fun s4 H4 h4 st4 => ?_
 have hb4 := st4.bl
 have st4 := st3.trans st4
 refine Qa ?_
 simp only [go_sem, hap, Qaz, Qdy _ _ hap, Ex.take4, Ex.allOw, Ex.cells_len]
 refine ⟨by omega, ?_⟩
 refine Qbbt _ x.args[0] F H4 w s4 _ _ (Nat.le_refl _) (Q6d hao _ (List.getElem_mem hap)) h4 (st4.at_ hat) (st4.ok _ hsok) (by omega) fun v s5 H5 h5 st5 => ?_
 have hb5 := st5.bl
 have st5 := st4.trans st5
 simp only [go_sem, Qqn]
 refine Qa ?_
 simp only [go_sem]
 refine Qrx (next := [(s1.blocks.length : Int), (s2.blocks.length : Int)]) (N := 0) h5 (st5.at_ hat) (by omega) fun s6 H6 h6 st6 => ?_
 have hb6 := st6.bl
 have st6 := st5.trans st6
 refine Qa ?_
 simp only [go_sem]
 refine hS (Qv x.body) (by omega) x.body _ F H6 w s6 _ _ (Nat.le_refl _) hbo h6 (st6.at_ hat) (st6.ok _ hsok) (by omega) fun s7 H7 h7 st7 => ?_
 have hb7 := st7.bl
 have st7 := st6.trans st7
 refine Qp ?_
 simp only [go_sem]
 refine Qrx (next := [(s.blocks.length : Int)]) (N := 0) h7 (st7.at_ hat) (by omega) fun s8 H8 h8 st8 => ?_
 have st8 := st7.trans st8
 simp only [Qz, Q9, Q1f]
 exact ⟨by simp, hK s8 H8 h8 (st8.mono (by omega))⟩
set_option maxHeartbeats 2000000 in
theorem Qa8j {n : Nat} (hS : ∀ m, m < n → Qaxi m) : Qbbf n := by
 intro x F H w s N K hn hok h hat hsok hN hK
 have hok' := hok
 have hsz := x.size_eq
 rw [St.ok_eq] at hok
 obtain ⟨hap, hao, hbo, heo⟩ := hok
 refine Qb Qas Qam9 ?_
 have retn : ∀ (e : Env) (s' : LS) (H' : Heap) (q : X), (q = .nrm ∨ q = .ret) → LInv F H' w s' → LStep s s' (10 * x.size) → Qz Qo3 K q e H' := by
  intro e s' H' q hq a1 a2
  rcases hq with rfl | rfl <;> exact ⟨by simp [Qo3], hK s' H' a1 a2⟩
 refine Qa ?_
 simp only [go_sem, x.cells_eq]
 refine Q2 ?_
 refine Qa ?_
 simp only [go_sem]
 refine Qg (Qd rfl ?_ ?_)
 ·intro hc
  refine Qa ?_
  simp only [go_sem]
  rw [← x.cells_eq]
  refine Qa6z hS x F H w s N _ hn hok' h hat hsok hN fun s1 H1 h1 st1 => ?_
  refine Qj ?_
  simp only [go_sem]
  exact retn _ s1 H1 _ (.inr rfl) h1 st1
 intro hc0
 refine Qf ?_
 simp only [go_sem]
 refine Qa ?_
 simp only [go_sem]
 refine Q2 ?_
 refine Qa ?_
 simp only [go_sem]
 refine Qg (Qc (Qt (fun n e1 H1 => ∃ (i : Nat) (ars : List Int) (c : C) (Lg : List (Nat × Obj)) (s' : LS), n = x.args.length - i ∧ i ≤ x.args.length ∧ ars.length = i ∧ Gr Lg 1 (Qh ars) c ∧ LInv F H1 w s' ∧ Kn F H1 [] (s'.L w ++ Lg) ∧
  LStep s s' (10 * Qab (x.args.take i)) ∧ e1 = [(0, .c (.ptr w 0)), (3, .c (.pp [.int .i64 x.op, .str x.name, .sl false 4 (Qbh x.args), .sl false 5 (Qax x.body), .sl false 5 (Qax x.els)])), (4, .c c), (5, .c (.int .i64 i))]) x.args.length ?_ ?_))
 ·exact ⟨0, [], _, [], s, by omega, by omega, rfl, .nil 1, h, by simpa using h.kn, (LStep.refl s).mono (by omega), rfl⟩
 ·rintro n e1 H1 ⟨i, ars, c, Lg, s1, hn1, hi, harl, hgr, h1, kn, st1, rfl⟩
  refine Q2 ?_
  refine Qa ?_
  simp only [go_sem, Qaz]
  intro hl
  simp only [LIM] at hl
  refine Qg (Qd rfl ?_ ?_)
  ·intro hc
   have hlt : i < x.args.length := by simpa using hc
   have hm := Qdz (List.getElem_mem hlt)
   have htk := Qog hlt
   have htl := Qfm x.args (i + 1)
   refine Qf ?_
   simp only [go_sem]
   refine Qg (Qc (Qp ?_))
   simp only [go_sem, hlt, Qaz, Qdy _ _ hlt, Ex.take4, Ex.allOw, Ex.cells_len]
   obtain ⟨F', hf, back⟩ := h1.beside kn hgr
   refine Qbbt _ _ F' H1 w s1 _ _ (Nat.le_refl _) (Q6d hao _ (List.getElem_mem hlt)) hf (st1.at_ hat) (st1.ok _ hsok) (by omega) fun v s2 H2 h2 st2 => ?_
   obtain ⟨h2, kn⟩ := back s2 H2 h2
   simp only [go_sem, Qqp]
   refine kn.grow (new := Qh [v]) hgr (.mk' _ _ _ _) (Q6 _) (by simp only [Qe, harl, List.length_cons, List.length_nil, LIM]; omega) fun y' H3 kn => ?_
   simp only [go_sem, Qqo]
   refine Qp ?_
   simp only [go_sem, X.next]
   refine ⟨Qn (by omega) (by omega), x.args.length - (i + 1), by omega, i + 1, ars ++ [v], _, _, s2, rfl, by omega, by simp [harl], .mk y' 1 (Qh (ars ++ [v])) (n := (Qh ars).length + (Qh [v]).length) (by simp [Qh]), h2.re kn.drop, by rw [Qc5]; exact kn, (st1.trans st2).mono (by rw [htk]; omega), by simp [Qh]⟩
  ·intro hc
   have hge : x.args.length ≤ i := by simpa using hc
   have hil : i = x.args.length := by omega
   rw [List.take_of_length_le hge] at st1
   have har0 : 0 < ars.length := by omega
   refine Qs ?_
   simp only [go_sem, X.next]
   refine Q2 ?_
   obtain ⟨S, H2, f1, f2, kn2⟩ := hgr.freeze kn (Q6 _)
   have h2 := h1.re kn2
   refine c_gh (Qx7 S (fun t => ?_) f2) (e' := [(0, .c (.ptr w 0)), (3, .c (.pp [.int .i64 x.op, .str x.name, .sl false 4 (Qbh x.args), .sl false 5 (Qax x.body), .sl false 5 (Qax x.els)])), (4, .c (.sl false 1 (Qh ars)))]) ?_
   ·simp only [lk]
    split
    ·exact .c _ _ (.same _ rfl)
    ·split
     ·exact .c _ _ (.same _ rfl)
     ·split
      ·exact .c _ _ f1
      ·exact .unk _
   have hsok1 := st1.ok _ hsok
   have hat1 := st1.at_ hat
   have hw2 := h2.hw
   refine Qa ?_
   simp only [go_sem]
   refine Qc ?_
   refine Qa ?_
   simp only [go_sem]
   refine Qd rfl ?_ ?_
   ·
    intro hc
    refine Qa ?_
    simp only [go_sem, hw2, LS.o]
    refine Qyi h2 hat1 hsok1 (by omega) fun s3 H3 h3 st3 => ?_
    have hw3 := h3.hw
    have hvo := h3.gv.isOw
    have hsok3 := st3.ok _ hsok1
    have st3 := st1.trans st3
    refine Qar ?_
    simp only [go_sem, hw3, LS.o, hvo]
    refine h3.addVar ⟨x.name, s3.next, 0, rfl⟩ (by have := hsok3.v1; simp only [LIM]; omega) fun y H4 hw4 cont => ?_
    simp only [go_sem, Qqq, hw4, LS.o]
    intro H5 h5
    have h5' := cont H5 h5
    have hw5 := h5'.hw
    refine Qp ?_
    have hn0 := hsok3.n0
    have hn1 := hsok3.n1
    simp only [go_sem, hw5, LS.o]
    refine ⟨Qn (by omega) (by omega), fun H6 h6 => ?_⟩
    have h6' := h5'.setw (s' := { s3 with vc := .vsl y 3 0 (s3.vars.length + 1), lv := [(y, .vec 3 (s3.vars ++ [[C.str x.name, C.int IntKind.i64 s3.next, C.int IntKind.i64 0]]))], vars := s3.vars ++ [[C.str x.name, C.int IntKind.i64 s3.next, C.int IntKind.i64 0]], next := s3.next + 1 }) h6 rfl rfl rfl rfl h5'.gv h5'.rv
    refine retn _ _ H6 _ (.inl rfl) h6' ⟨st3.bl, fun M hM => ?_, ?_, st3.at_, st3.fn⟩
    ·have q := st3.ok M hM
     refine ⟨q.r0, ?_, ?_, ?_, ?_, fun b hb => ?_, ?_⟩
     ·have := q.r1; show s3.regs ≤ _; omega
     ·have := q.n0; show 0 ≤ s3.next + 1; omega
     ·have := q.n1; show s3.next + 1 ≤ _; omega
     ·have := q.b1; show s3.blocks.length ≤ _; omega
     ·have := q.i1 b hb; omega
     ·have := q.v1; simp; omega
    ·have := st3.vl; simp; omega
   intro hc1
   refine Qa ?_
   simp only [go_sem]
   refine Qd rfl ?_ ?_
   ·
    intro hc
    refine Qp ?_
    simp only [go_sem]
    refine Qbb7 h2 fun v => ?_
    simp only [go_sem, Qqr]
    refine Qyi h2 hat1 hsok1 (by omega) fun s3 H3 h3 st3 => ?_
    exact retn _ _ H3 _ (.inl rfl) h3 ((st1.trans st3).mono (by omega))
   intro hc2
   refine Qa ?_
   simp only [go_sem]
   refine Qd rfl ?_ ?_
   ·intro hc
    refine Qp ?_
    simp only [go_sem]
    refine Qyi h2 hat1 hsok1 (by omega) fun s3 H3 h3 st3 => ?_
    exact retn _ _ H3 _ (.inl rfl) h3 ((st1.trans st3).mono (by omega))
   intro hc3
   refine Qa ?_
   simp only [go_sem]
   refine Qd rfl ?_ ?_
   ·intro hc
    refine Qp ?_
    simp only [go_sem]
    refine Qyi h2 hat1 hsok1 (by omega) fun s3 H3 h3 st3 => ?_
    exact retn _ _ H3 _ (.inl rfl) h3 ((st1.trans st3).mono (by omega))
   intro hc4
   refine Qa ?_
   simp only [go_sem]
   refine Qd rfl ?_ ?_
   ·
    intro hc
    refine Qb4 ?_
    simp only [go_sem, har0, Qe, Qx _ _ har0]
    refine ⟨by omega, ?_⟩
    refine Qe7 h2 hsok1 (by omega) fun s3 H3 h3 st3 hb3 => ?_
    have st3 := st1.trans st3
    simp only [go_sem, Qm2, har0, Qe, Qx _ _ har0]
    refine ⟨by omega, ?_⟩
    refine Qrx (next := []) (N := 0) h3 (st3.at_ hat) (by omega) fun s4 H4 h4 st4 => ?_
    exact retn _ _ H4 _ (.inl rfl) h4 ((st3.trans st4).mono (by omega))
   intro hc5
   refine Qa ?_
   simp only [go_sem]
   refine Qd rfl ?_ ?_
   ·
    intro hc
    refine Qa ?_
    simp only [go_sem]
    refine Qe7 h2 hsok1 (by omega) fun s3 H3 h3 st3 hb3 => ?_
    have st3 := st1.trans st3
    simp only [go_sem, Qm3]
    refine Qa ?_
    simp only [go_sem]
    refine Qe7 h3 (st3.ok _ hsok) (by omega) fun s4 H4 h4 st4 hb4 => ?_
    have st4 := st3.trans st4
    simp only [go_sem, Qm4]
    refine Qa ?_
    simp only [go_sem]
    refine Qe7 h4 (st4.ok _ hsok) (by omega) fun s5 H5 h5 st5 hb5 => ?_
    have st5 := st4.trans st5
    simp only [go_sem, Qm5]
    refine Qa ?_
    simp only [go_sem, har0, Qe, Qx _ _ har0]
    refine ⟨by omega, ?_⟩
    refine Qrx (next := [(s1.blocks.length : Int), (s3.blocks.length : Int)]) (N := 0) h5 (st5.at_ hat) (by omega) fun s6 H6 h6 st6 => ?_
    have hb6 := st6.bl
    have st6 := st5.trans st6
    refine Qa ?_
    simp only [go_sem]
    refine hS (Qv x.body) (by omega) x.body _ F H6 w s6 _ _ (Nat.le_refl _) hbo h6 (st6.at_ hat) (st6.ok _ hsok) (by omega) fun s7 H7 h7 st7 => ?_
    have hb7 := st7.bl
    have st7 := st6.trans st7
    refine Qa ?_
    simp only [go_sem]
    refine Qrx (next := [(s4.blocks.length : Int)]) (N := 0) h7 (st7.at_ hat) (by omega) fun s8 H8 h8 st8 => ?_
    have hb8 := st8.bl
    have st8 := st7.trans st8
    refine Qa ?_
    simp only [go_sem]
    refine hS (Qv x.els) (by omega) x.els _ F H8 w s8 _ _ (Nat.le_refl _) heo h8 (st8.at_ hat) (st8.ok _ hsok) (by omega) fun s9 H9 h9 st9 => ?_
    have hb9 := st9.bl
    have st9 := st8.trans st9
    refine Qp ?_
    simp only [go_sem]
    refine Qrx (next := [(s4.blocks.length : Int)]) (N := 0) h9 (st9.at_ hat) (by omega) fun s10 H10 h10 st10 => ?_
    exact retn _ _ H10 _ (.inl rfl) h10 ((st9.trans st10).mono (by omega))
   ·intro hc6
    refine Qf ?_
    simp only [go_sem]
    exact retn _ _ H2 _ (.inl rfl) h2 (st1.mono (by omega))
theorem Qbci (n : Nat) : Qaxi n := by
 induction n using Nat.strongRecOn with
 | ind n ih => exact Qa5h (Qa8j ih)
end Go.AE.Y

