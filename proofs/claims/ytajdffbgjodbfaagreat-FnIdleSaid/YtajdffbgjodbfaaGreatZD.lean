/- Part 4 of the proof: the engine, codes, walks and plain laws, each named where it stands. -/
import Derived.Test.YtajdffbgjodbfaaGreatZC
open Nat (reduceEqDiff reduceAdd reduceLeDiff reduceLT)
set_option linter.unusedVariables false
set_option linter.unusedSimpArgs false
set_option maxRecDepth 4000
namespace Go.AE.Y
open Go.Proofs.Tryz
variable {H : Heap} {K : V → Heap → Prop}
set_option maxHeartbeats 3000000 in
theorem Qajb {b : BlkD} (hb : b.sm) (hK : ∀ (o : OBlk) (H' : Heap), Kn H H' [] o.lg → o.ok → o.sm 1000 → K (.ag o.row) H') : Qp prog Qh5 [.ag b.cells] H K := by
 have hbn := hb.n
 have hbi := hb.i
 have hbp := hb.p
 refine Qew ?_
 refine Qb Qat Qajo ?_
 refine Qa ?_
 simp only [go_sem, BlkD.cells, reduceIte, reduceEqDiff, reduceAdd, reduceLeDiff, reduceLT, reduceCtorEq]
 intro x2 hx2 H1 h1
 have kn := (Kn.start0 H).al hx2 h1
 refine Qan ?_
 simp only [go_sem, Qg, List.nil_append, Nat.zero_add, reduceIte, reduceEqDiff, reduceAdd, reduceLeDiff, reduceLT, reduceCtorEq]
 refine ⟨.inl trivial, Qx _, by simp only [LIM]; omega, fun y hy H2 h2 => ?_⟩
 have kn := kn.al hy h2
 simp only [go_sem, Qmg, reduceIte, reduceEqDiff, reduceAdd, reduceLeDiff, reduceLT, reduceCtorEq]
 intro x3 hx3 H3 h3
 have kn := kn.al hx3 h3
 have hx33 := kn.l 2 rfl
 simp only [go_sem, Qmf, hx33, reduceIte, reduceEqDiff, reduceAdd, reduceLeDiff, reduceLT, reduceCtorEq]
 intro H4 h4
 have kn := kn.stL 2 rfl h4
 obtain ⟨nx, hnx⟩ : ∃ nx : OInts, nx = ⟨b.next, y⟩ := ⟨_, rfl⟩
 have hnc : C.vsl y 1 0 b.next.length = nx.c := by rw [hnx]; rfl
 have hnl : [(y, Obj.vec 1 (Qe b.next))] = nx.lg := by rw [hnx]; rfl
 rw [hnc] at kn
 have kn : Kn H H4 [] ([(x2, .st [.sl true 2 [], .sl true 4 [], .int .i64 0, .int .i64 0, .sl true 1 []]), (x3, .st [.sl true 2 [], .sl true 4 [], .int .i64 b.jump, .int .i64 b.on, nx.c])] ++ nx.lg) := kn.perm (by
  rw [← hnl]
  exact .cons _ (.swap _ _ _))
 refine Q4 ?_
 refine Qa ?_
 simp only [go_sem, reduceIte, reduceEqDiff, reduceAdd, reduceLeDiff, reduceLT, reduceCtorEq]
 refine Qh (Qc (Qu (fun n e1 H1 => ∃ (i : Nat) (ps : List OPhi) (pc : C) (pl : List (Nat × Obj)), n = b.phis.length - i ∧ i ≤ b.phis.length ∧ ps.length = i ∧ (∀ p ∈ ps, p.ok) ∧ Gr pl 2 (ps.map OPhi.row) pc ∧
  Kn H H1 [] (([(x2, .st [.sl true 2 [], .sl true 4 [], .int .i64 0, .int .i64 0, .sl true 1 []]), (x3, .st [pc, .sl true 4 [], .int .i64 b.jump, .int .i64 b.on, nx.c])] ++ (nx.lg ++ ps.flatMap OPhi.lg)) ++ pl) ∧
  e1 = [(1, .c (.pp [.sl false 2 (Q1 b.phis), .sl false 4 (Qaj b.ins), .int .i64 b.jump, .int .i64 b.on, .sl false 1 (Qe b.next)])), (2, .c (.ptr x2 0)), (3, .c (.ptr x3 0)), (4, .c (.int .i64 i))]) b.phis.length ?_ ?_))
 ·exact ⟨0, [], _, [], by omega, by omega, rfl, by simp, .nil 2, by simpa using kn, rfl⟩
 ·rintro n e1 H1 ⟨i, ps, pc, pl, hn1, hi, hpsl, hpsok, hgr, kn, rfl⟩
  have hpcow := hgr.isOw
  refine Q4 ?_
  refine Qa ?_
  simp only [go_sem, Qy, reduceIte, reduceEqDiff, reduceAdd, reduceLeDiff, reduceLT, reduceCtorEq]
  intro hl
  refine Qh (Qd rfl ?_ ?_)
  ·intro hc
   have hlt : i < b.phis.length := by simpa using hc
   have hpa := hb.pa _ (List.getElem_mem hlt)
   have hx31 := kn.l 1 rfl
   refine Qf ?_
   simp only [go_sem]
   refine Qh (Qc (Qbw ?_))
   simp only [go_sem, hx31, hpcow, hlt, Qy, Qa2 _ _ hlt, PhiD.cells, Qg, List.nil_append, Nat.zero_add, reduceIte, reduceEqDiff, reduceAdd, reduceLeDiff, reduceLT, reduceCtorEq]
   refine ⟨.inl trivial, Qx _, by simp only [LIM]; omega, fun a ha H5 h5 => ?_⟩
   have kn := kn.al ha h5
   have hx35 := kn.l 1 rfl
   simp only [go_sem, Qmi, hx35, hpcow, hlt, Qy, Qa2 _ _ hlt, PhiD.cells, reduceIte, reduceEqDiff, reduceAdd, reduceLeDiff, reduceLT, reduceCtorEq]
   obtain ⟨o, ho⟩ : ∃ o : OPhi, o = ⟨b.phis[i].to, b.phis[i].args, .vsl a 1 0 b.phis[i].args.length, [(a, .vec 1 (Qe b.phis[i].args))]⟩ := ⟨_, rfl⟩
   have hook : o.ok := by rw [ho]; exact .inl ⟨a, rfl, rfl⟩
   have hor : [C.int IntKind.i64 b.phis[i].to, C.vsl a 1 0 b.phis[i].args.length] = o.row := by rw [ho]; rfl
   have hol : [(a, Obj.vec 1 (Qe b.phis[i].args))] = o.lg := by rw [ho]
   rw [hor]
   rw [hol] at kn
   have kn := kn.perm Qang
   refine kn.grow (new := [o.row]) hgr (.mk' _ _ _ _) (by intro r hr; simp only [List.mem_singleton] at hr; subst hr; exact o.noOw hook) (by simp only [List.length_map, List.length_cons, List.length_nil, LIM]; omega) fun z H6 kn => ?_
   have kn : Kn H H6 [] (([(x2, .st [.sl true 2 [], .sl true 4 [], .int .i64 0, .int .i64 0, .sl true 1 []]), (x3, .st [pc, .sl true 4 [], .int .i64 b.jump, .int .i64 b.on, nx.c])] ++ (nx.lg ++ (ps ++ [o]).flatMap OPhi.lg)) ++ [(z, .vec 2 ((ps ++ [o]).map OPhi.row))]) := by
    simpa [List.flatMap_append, List.append_assoc] using kn
   have hx36 := kn.l 1 rfl
   simp only [go_sem, Qmh, hx36, reduceIte, reduceEqDiff, reduceAdd, reduceLeDiff, reduceLT, reduceCtorEq]
   intro H7 h7
   have kn := kn.stL 1 rfl h7
   refine Qq ?_
   simp only [go_sem, X.next, reduceIte, reduceEqDiff, reduceAdd, reduceLeDiff, reduceLT, reduceCtorEq]
   simp only [LIM] at hl
   refine ⟨Qo (by omega) (by omega), b.phis.length - (i + 1), by omega, i + 1, ps ++ [o], _, _, rfl, by omega, by simp [hpsl], fun p hp => ?_, ?_, kn, rfl⟩
   ·rcases List.mem_append.1 hp with h | h
    ·exact hpsok p h
    ·simp only [List.mem_singleton] at h; subst h; exact hook
   ·exact .mk _ _ _ (by simp)
  ·intro hc
   refine Qt ?_
   simp only [go_sem, X.next]
   refine Q4 ?_
   refine Qa ?_
   simp only [go_sem, reduceIte, reduceEqDiff, reduceAdd, reduceLeDiff, reduceLT, reduceCtorEq]
   refine Qh (Qc (Qu (fun n e1 H1 => ∃ (i : Nat) (is : List OIns) (ic : C) (il : List (Nat × Obj)), n = b.ins.length - i ∧ i ≤ b.ins.length ∧ is.length = i ∧ (∀ x ∈ is, x.a.ns.length ≤ 1000) ∧ Gr il 4 (is.map OIns.row) ic ∧
    Kn H H1 [] (([(x2, .st [.sl true 2 [], .sl true 4 [], .int .i64 0, .int .i64 0, .sl true 1 []]), (x3, .st [pc, ic, .int .i64 b.jump, .int .i64 b.on, nx.c])] ++ (nx.lg ++ (ps.flatMap OPhi.lg ++ (pl ++ is.flatMap OIns.lg)))) ++ il) ∧
    e1 = [(1, .c (.pp [.sl false 2 (Q1 b.phis), .sl false 4 (Qaj b.ins), .int .i64 b.jump, .int .i64 b.on, .sl false 1 (Qe b.next)])), (2, .c (.ptr x2 0)), (3, .c (.ptr x3 0)), (5, .c (.int .i64 i))]) b.ins.length ?_ ?_))
   ·exact ⟨0, [], _, [], by omega, by omega, rfl, by simp, .nil 4, by simpa [List.append_assoc] using kn, rfl⟩
   ·rintro n e1 H1 ⟨i, is, ic, il, hn1, hi, hisl, hisa, hgi, kn, rfl⟩
    have hicow := hgi.isOw
    refine Q4 ?_
    refine Qa ?_
    simp only [go_sem, Qab, reduceIte, reduceEqDiff, reduceAdd, reduceLeDiff, reduceLT, reduceCtorEq]
    intro hl
    refine Qh (Qd rfl ?_ ?_)
    ·intro hc
     have hlt : i < b.ins.length := by simpa using hc
     have hia := hb.ia _ (List.getElem_mem hlt)
     refine Qf ?_
     simp only [go_sem]
     refine Qh (Qc ?_)
     refine Qa ?_
     simp only [go_sem, hlt, Qab, Qa9 _ _ hlt, InsD.cells, reduceIte, reduceEqDiff, reduceAdd, reduceLeDiff, reduceLT, reduceCtorEq]
     intro x6 hx6 H5 h5
     have kn := kn.al hx6 h5
     have kn := kn.perm (List.perm_append_comm (l₁ := _) (l₂ := [(x6, _)]))
     have hx65 := kn.l 0 rfl
     simp only [go_sem, Qmj, hx65, reduceIte, reduceEqDiff, reduceAdd, reduceLeDiff, reduceLT, reduceCtorEq]
     intro H6 h6
     have kn := kn.stL 0 rfl h6
     have hx66 := kn.l 0 rfl
     have hx36 := kn.l 2 rfl
     refine Qbw ?_
     simp only [go_sem, hx66, hx36, hicow, Qg, List.nil_append, Nat.zero_add, reduceIte, reduceEqDiff, reduceAdd, reduceLeDiff, reduceLT, reduceCtorEq]
     refine ⟨.inl trivial, Qx _, by simp only [LIM]; omega, fun a ha H7 h7 => ?_⟩
     have kn := kn.al ha h7
     have hx67 := kn.l 0 rfl
     have hx37 := kn.l 2 rfl
     simp only [go_sem, Qml, hx67, hx37, hicow, reduceIte, reduceEqDiff, reduceAdd, reduceLeDiff, reduceLT, reduceCtorEq]
     obtain ⟨o, ho⟩ : ∃ o : OIns, o = ⟨b.ins[i].op, b.ins[i].to, ⟨b.ins[i].args, a⟩, b.ins[i].n⟩ := ⟨_, rfl⟩
     have hor : [C.int IntKind.i64 b.ins[i].op, C.int IntKind.i64 b.ins[i].to, C.vsl a 1 0 b.ins[i].args.length, C.int IntKind.i64 b.ins[i].n] = o.row := by rw [ho]; rfl
     have hol : [(a, Obj.vec 1 (Qe b.ins[i].args))] = o.lg := by rw [ho]; rfl
     rw [hor]
     rw [hol] at kn
     have kn : Kn H H7 [] ((([(x2, .st [.sl true 2 [], .sl true 4 [], .int .i64 0, .int .i64 0, .sl true 1 []]), (x3, .st [pc, ic, .int .i64 b.jump, .int .i64 b.on, nx.c])] ++ (nx.lg ++ (ps.flatMap OPhi.lg ++ (pl ++ is.flatMap OIns.lg)))) ++ il) ++ o.lg) := by
      have kn := kn.perm (List.perm_append_comm (l₁ := [(x6, _)]) (l₂ := _))
      exact kn.drop
     have kn := kn.perm Qang
     refine kn.grow (new := [o.row]) hgi (.mk' _ _ _ _) (by simp [o.noOw]) (by simp only [List.length_map, List.length_cons, List.length_nil, LIM]; omega) fun z H8 kn => ?_
     have kn : Kn H H8 [] (([(x2, .st [.sl true 2 [], .sl true 4 [], .int .i64 0, .int .i64 0, .sl true 1 []]), (x3, .st [pc, ic, .int .i64 b.jump, .int .i64 b.on, nx.c])] ++ (nx.lg ++ (ps.flatMap OPhi.lg ++ (pl ++ (is ++ [o]).flatMap OIns.lg)))) ++ [(z, .vec 4 ((is ++ [o]).map OIns.row))]) := by
      simpa [List.flatMap_append, List.append_assoc] using kn
     have hx38 := kn.l 1 rfl
     simp only [go_sem, Qmk, hx38, reduceIte, reduceEqDiff, reduceAdd, reduceLeDiff, reduceLT, reduceCtorEq]
     intro H9 h9
     have kn := kn.stL 1 rfl h9
     refine Qq ?_
     simp only [go_sem, X.next, reduceIte, reduceEqDiff, reduceAdd, reduceLeDiff, reduceLT, reduceCtorEq]
     simp only [LIM] at hl
     refine ⟨Qo (by omega) (by omega), b.ins.length - (i + 1), by omega, i + 1, is ++ [o], _, _, rfl, by omega, by simp [hisl], fun x hx => ?_, ?_, kn, rfl⟩
     ·rcases List.mem_append.1 hx with hx | hx
      ·exact hisa x hx
      ·simp only [List.mem_singleton] at hx
       rw [hx, ho]; exact hia
     ·exact .mk _ _ _ (by simp)
    ·intro hc
     have hx21 := kn.l 0 rfl
     have hx31 := kn.l 1 rfl
     refine Qt ?_
     simp only [go_sem, X.next]
     have hnow : nx.c.isOw = false := rfl
     refine Qa ?_
     simp only [go_sem, hx21, hx31, hpcow, hicow, hnow, reduceIte, reduceEqDiff, reduceAdd, reduceLeDiff, reduceLT, reduceCtorEq]
     intro H5 h5
     have kn := kn.stL 0 rfl h5
     have hx25 := kn.l 0 rfl
     refine Qj ?_
     simp only [go_sem, Qz, Qac, Qwk, reduceIte, List.mem_singleton, forall_eq, RS.op, hx25, hpcow, hicow, hnow, reduceIte, reduceEqDiff, reduceAdd, reduceLeDiff, reduceLT, reduceCtorEq]
     obtain ⟨o, ho⟩ : ∃ o : OBlk, o = ⟨ps, pc, pl, is, ic, il, b.jump, b.on, nx⟩ := ⟨_, rfl⟩
     have hok : o.ok := by rw [ho]; exact ⟨hgr, hgi, hpsok⟩
     have hos : o.sm 1000 := by rw [ho]; exact ⟨by rw [hnx]; exact hbn, by show is.length ≤ _; omega, by show ps.length ≤ _; omega, hisa⟩
     have kn : Kn H H5 [] ([(x2, .st [pc, ic, .int .i64 b.jump, .int .i64 b.on, nx.c]), (x3, .st [pc, ic, .int .i64 b.jump, .int .i64 b.on, nx.c])] ++ o.lg) := by
      rw [ho]; simpa [OBlk.lg, List.append_assoc] using kn
     refine ⟨unx H o.lg, .ag o.row, H5.frz (unx H o.lg), ?_, Qdq _ _, hK o _ kn.finK hok hos⟩
     rw [ho]
     exact FrzL.ag (.cons (.same _ hpcow) (.cons (.same _ hicow) (.cons (Qi rfl) (.cons (Qi rfl) (.cons (.same _ hnow) .nil)))))
end Go.AE.Y

namespace Go.AE.Y
open Go.Proofs.Tryz
variable {H : Heap} {K : V → Heap → Prop}
theorem BlkD.take5 (x : BlkD) : x.cells.take 5 = x.cells := rfl
theorem BlkD.allOw (x : BlkD) : (x.cells.all fun c => !c.isOw) = true := rfl
theorem BlkD.len5 (x : BlkD) : x.cells.length = 5 := rfl
theorem CodeD.take3 (x : CodeD) : x.cells.take 3 = x.cells := rfl
theorem CodeD.allOw (x : CodeD) : (x.cells.all fun c => !c.isOw) = true := rfl
theorem CodeD.len3 (x : CodeD) : x.cells.length = 3 := rfl
theorem OBlk.len5 (x : OBlk) : x.row.length = 5 := rfl
theorem OCode.len3 (x : OCode) : x.row.length = 3 := rfl
set_option maxHeartbeats 2000000 in
theorem Qa6z {q : CodeD} (hq : q.sm) (hK : ∀ (o : OCode) (H' : Heap), Kn H H' [] o.lg → o.ok → o.sm 1000 → K (.ag o.row) H') : Qp prog Q5r [.ag q.cells] H K := by
 have hqb := hq.b
 refine Qew ?_
 refine Qb Qat Qa7h ?_
 refine Qa ?_
 simp only [go_sem, CodeD.cells, reduceIte, reduceEqDiff, reduceAdd, reduceLeDiff, reduceLT, reduceCtorEq]
 intro x2 hx2 H1 h1
 have kn := (Kn.start0 H).al hx2 h1
 refine Qa ?_
 simp only [go_sem, reduceIte, reduceEqDiff, reduceAdd, reduceLeDiff, reduceLT, reduceCtorEq]
 intro x3 hx3 H2 h2
 have kn := kn.al hx3 h2
 have hx32 := kn.l 1 rfl
 simp only [go_sem, Qaaf, hx32, reduceIte, reduceEqDiff, reduceAdd, reduceLeDiff, reduceLT, reduceCtorEq]
 intro H3 h3
 have kn := kn.stL 1 rfl h3
 refine Q4 ?_
 refine Qa ?_
 simp only [go_sem, reduceIte, reduceEqDiff, reduceAdd, reduceLeDiff, reduceLT, reduceCtorEq]
 refine Qh (Qc (Qu (fun n e1 H1 => ∃ (i : Nat) (os : List OBlk) (bc : C) (bl : List (Nat × Obj)), n = q.blocks.length - i ∧ i ≤ q.blocks.length ∧ os.length = i ∧ (∀ o ∈ os, o.ok ∧ o.sm 1000) ∧ Gr bl 5 (os.map OBlk.row) bc ∧
  Kn H H1 [] (([(x2, .st [.int .i64 0, .int .i64 0, .sl true 5 []]), (x3, .st [.int .i64 q.params, .int .i64 q.regs, bc])] ++ os.flatMap OBlk.lg) ++ bl) ∧
  e1 = [(1, .c (.pp [.int .i64 q.params, .int .i64 q.regs, .sl false 5 (Ql q.blocks)])), (2, .c (.ptr x2 0)), (3, .c (.ptr x3 0)), (4, .c (.int .i64 i))]) q.blocks.length ?_ ?_))
 ·exact ⟨0, [], _, [], by omega, by omega, rfl, by simp, .nil 5, by simpa using kn, rfl⟩
 ·rintro n e1 H1 ⟨i, os, bc, bl, hn1, hi, hol, hok, hgr, kn, rfl⟩
  have hbow := hgr.isOw
  have hx31 := kn.l 1 rfl
  refine Q4 ?_
  refine Qa ?_
  simp only [go_sem, Qn, reduceIte, reduceEqDiff, reduceAdd, reduceLeDiff, reduceLT, reduceCtorEq]
  intro hl
  simp only [LIM] at hl
  refine Qh (Qd rfl ?_ ?_)
  ·intro hc
   have hlt : i < q.blocks.length := by simpa using hc
   refine Qf ?_
   simp only [go_sem]
   refine Qh (Qc (Qbw ?_))
   simp only [go_sem, hx31, hbow, hlt, Qn, Q5 _ _ hlt, BlkD.take5, BlkD.allOw, BlkD.len5, reduceIte, reduceEqDiff, reduceAdd, reduceLeDiff, reduceLT, reduceCtorEq]
   refine Qajb (hq.bs _ (List.getElem_mem hlt)) fun o H4 k2 hoo hosm => ?_
   have kn := kn.comp0 k2
   have hx34 := kn.l 1 rfl
   simp only [go_sem, Qaah, hx34, hbow, o.len5, reduceIte, reduceEqDiff, reduceAdd, reduceLeDiff, reduceLT, reduceCtorEq]
   have kn := kn.perm Qang
   refine kn.grow (new := [o.row]) hgr (.mk' _ _ _ _) (by intro r hr; simp only [List.mem_singleton] at hr; subst hr; exact o.noOw hoo) (by simp only [List.length_map, List.length_cons, List.length_nil, LIM]; omega) fun z H5 kn => ?_
   have kn : Kn H H5 [] (([(x2, .st [.int .i64 0, .int .i64 0, .sl true 5 []]), (x3, .st [.int .i64 q.params, .int .i64 q.regs, bc])] ++ (os ++ [o]).flatMap OBlk.lg) ++ [(z, .vec 5 ((os ++ [o]).map OBlk.row))]) := by
    simpa [List.flatMap_append, List.append_assoc] using kn
   have hx35 := kn.l 1 rfl
   simp only [go_sem, Qaag, hx35, reduceIte, reduceEqDiff, reduceAdd, reduceLeDiff, reduceLT, reduceCtorEq]
   intro H6 h6
   have kn := kn.stL 1 rfl h6
   refine Qq ?_
   simp only [go_sem, X.next, reduceIte, reduceEqDiff, reduceAdd, reduceLeDiff, reduceLT, reduceCtorEq]
   refine ⟨Qo (by omega) (by omega), q.blocks.length - (i + 1), by omega, i + 1, os ++ [o], _, _, rfl, by omega, by simp [hol], fun o' ho' => ?_, .mk _ _ _ (by simp), kn, rfl⟩
   rcases List.mem_append.1 ho' with h | h
   ·exact hok o' h
   ·simp at h; subst h; exact ⟨hoo, hosm⟩
  ·intro hc
   have hge : q.blocks.length ≤ i := by simpa using hc
   have hx21 := kn.l 0 rfl
   refine Qt ?_
   simp only [go_sem, X.next]
   refine Qa ?_
   simp only [go_sem, hx31, hx21, hbow, reduceIte, reduceEqDiff, reduceAdd, reduceLeDiff, reduceLT, reduceCtorEq]
   intro H4 h4
   have kn := kn.stL 0 rfl h4
   have hx24 := kn.l 0 rfl
   refine Qj ?_
   simp only [go_sem, Qz, Qac, Qax5, reduceIte, List.mem_singleton, forall_eq, RS.op, hx24, hbow, reduceIte, reduceEqDiff, reduceAdd, reduceLeDiff, reduceLT, reduceCtorEq]
   obtain ⟨o, ho⟩ : ∃ o : OCode, o = ⟨q.params, q.regs, os, bc, bl⟩ := ⟨_, rfl⟩
   have hb0 := hq.b0
   have hosm : o.sm 1000 := by rw [ho]; exact ⟨by show 0 < os.length; omega, by show os.length ≤ _; omega, fun b hb => (hok b hb).2, hq.p0, hq.p1⟩
   have hok : o.ok := by rw [ho]; exact ⟨hgr, fun b hb => (hok b hb).1⟩
   have kn : Kn H H4 [] ([(x2, .st [.int .i64 q.params, .int .i64 q.regs, bc]), (x3, .st [.int .i64 q.params, .int .i64 q.regs, bc])] ++ o.lg) := by
    rw [ho]; simpa [OCode.lg, List.append_assoc] using kn
   refine ⟨unx H o.lg, .ag o.row, H4.frz (unx H o.lg), ?_, Qdq _ _, hK o _ kn.finK hok hosm⟩
   rw [ho]
   exact FrzL.ag (.cons (Qi rfl) (.cons (Qi rfl) (.cons (.same _ hbow) .nil)))
set_option maxHeartbeats 2000000 in
theorem Qamw {cs : List CodeD} {fl : Bool} (hs : ∀ c ∈ cs, c.sm) (hl : cs.length ≤ 1000000)
  (hK : ∀ (us : List OCode) (cc : C) (cl : List (Nat × Obj)) (H' : Heap), Kn H H' [] (us.flatMap OCode.lg ++ cl) → Gr cl 3 (us.map OCode.row) cc → (∀ u ∈ us, u.ok ∧ u.sm 1000) → us.length = cs.length → K (.ag [cc]) H') :
  Qp prog Qkm [.ag [.sl fl 3 (Qm cs)]] H K := by
 refine Qew ?_
 refine Qb Qat Qam7 ?_
 refine Qa ?_
 simp only [go_sem, reduceIte, reduceEqDiff, reduceAdd, reduceLeDiff, reduceLT, reduceCtorEq]
 intro x2 hx2 H1 h1
 have kn := (Kn.start0 H).al hx2 h1
 refine Qa ?_
 simp only [go_sem, reduceIte, reduceEqDiff, reduceAdd, reduceLeDiff, reduceLT, reduceCtorEq]
 intro x3 hx3 H2 h2
 have kn := kn.al hx3 h2
 have hx32 := kn.l 1 rfl
 simp only [go_sem, Qqr, hx32, reduceIte, reduceEqDiff, reduceAdd, reduceLeDiff, reduceLT, reduceCtorEq]
 intro H3 h3
 have kn := kn.stL 1 rfl h3
 refine Q4 ?_
 refine Qa ?_
 simp only [go_sem, reduceIte, reduceEqDiff, reduceAdd, reduceLeDiff, reduceLT, reduceCtorEq]
 refine Qh (Qc (Qu (fun n e1 H1 => ∃ (i : Nat) (os : List OCode) (bc : C) (bl : List (Nat × Obj)), n = cs.length - i ∧ i ≤ cs.length ∧ os.length = i ∧ (∀ o ∈ os, o.ok ∧ o.sm 1000) ∧ Gr bl 3 (os.map OCode.row) bc ∧
  Kn H H1 [] (([(x2, .st [.sl true 3 []]), (x3, .st [bc])] ++ os.flatMap OCode.lg) ++ bl) ∧
  e1 = [(1, .c (.pp [.sl fl 3 (Qm cs)])), (2, .c (.ptr x2 0)), (3, .c (.ptr x3 0)), (4, .c (.int .i64 i))]) cs.length ?_ ?_))
 ·exact ⟨0, [], _, [], by omega, by omega, rfl, by simp, .nil 3, by simpa using kn, rfl⟩
 ·rintro n e1 H1 ⟨i, os, bc, bl, hn1, hi, hol, hok, hgr, kn, rfl⟩
  have hbow := hgr.isOw
  have hx31 := kn.l 1 rfl
  refine Q4 ?_
  refine Qa ?_
  simp only [go_sem, Qs, reduceIte, reduceEqDiff, reduceAdd, reduceLeDiff, reduceLT, reduceCtorEq]
  intro _
  refine Qh (Qd rfl ?_ ?_)
  ·intro hc
   have hlt : i < cs.length := by simpa using hc
   refine Qf ?_
   simp only [go_sem]
   refine Qh (Qc (Qbw ?_))
   simp only [go_sem, hx31, hbow, hlt, Qs, Q7 _ _ hlt, CodeD.take3, CodeD.allOw, CodeD.len3, reduceIte, reduceEqDiff, reduceAdd, reduceLeDiff, reduceLT, reduceCtorEq]
   refine Qa6z (hs _ (List.getElem_mem hlt)) fun o H4 k2 hoo hob => ?_
   have kn := kn.comp0 k2
   have hx34 := kn.l 1 rfl
   simp only [go_sem, Qqt, hx34, hbow, o.len3, reduceIte, reduceEqDiff, reduceAdd, reduceLeDiff, reduceLT, reduceCtorEq]
   have kn := kn.perm Qang
   refine kn.grow (new := [o.row]) hgr (.mk' _ _ _ _) (by intro r hr; simp only [List.mem_singleton] at hr; subst hr; exact o.noOw hoo) (by simp only [List.length_map, List.length_cons, List.length_nil, LIM]; omega) fun z H5 kn => ?_
   have kn : Kn H H5 [] (([(x2, .st [.sl true 3 []]), (x3, .st [bc])] ++ (os ++ [o]).flatMap OCode.lg) ++ [(z, .vec 3 ((os ++ [o]).map OCode.row))]) := by
    simpa [List.flatMap_append, List.append_assoc] using kn
   have hx35 := kn.l 1 rfl
   simp only [go_sem, Qqs, hx35, reduceIte, reduceEqDiff, reduceAdd, reduceLeDiff, reduceLT, reduceCtorEq]
   intro H6 h6
   have kn := kn.stL 1 rfl h6
   refine Qq ?_
   simp only [go_sem, X.next, reduceIte, reduceEqDiff, reduceAdd, reduceLeDiff, reduceLT, reduceCtorEq]
   refine ⟨Qo (by omega) (by omega), cs.length - (i + 1), by omega, i + 1, os ++ [o], _, _, rfl, by omega, by simp [hol], fun o' ho' => ?_, .mk _ _ _ (by simp), kn, rfl⟩
   rcases List.mem_append.1 ho' with h | h
   ·exact hok o' h
   ·simp at h; subst h; exact ⟨hoo, hob⟩
  ·intro hc
   have hge : cs.length ≤ i := by simpa using hc
   have hx21 := kn.l 0 rfl
   refine Qt ?_
   simp only [go_sem, X.next]
   refine Qa ?_
   simp only [go_sem, hx31, hx21, hbow, reduceIte, reduceEqDiff, reduceAdd, reduceLeDiff, reduceLT, reduceCtorEq]
   intro H4 h4
   have kn := kn.stL 0 rfl h4
   have hx24 := kn.l 0 rfl
   refine Qj ?_
   simp only [go_sem, Qz, Qac, Q0r, reduceIte, List.mem_singleton, forall_eq, RS.op, hx24, hbow, reduceIte, reduceEqDiff, reduceAdd, reduceLeDiff, reduceLT, reduceCtorEq]
   have kn : Kn H H4 [] ([(x2, .st [bc]), (x3, .st [bc])] ++ (os.flatMap OCode.lg ++ bl)) := by
    simpa [List.append_assoc] using kn
   exact ⟨unx H _, .ag [bc], H4.frz (unx H _), FrzL.ag (.cons (.same _ hbow) .nil), Qdq _ _, hK os bc bl _ kn.finK hgr hok (by omega)⟩
end Go.AE.Y

namespace Go.AE.Y
open Go.Proofs.Tryz
variable {H : Heap} {K : V → Heap → Prop}
structure CRd (H : Heap) (R : Rdr) (cc : C) (rows : List (List C)) : Prop where
 s : Slc H 3 rows cc
 ow : cc.isOw = false
 ne : ∀ l a c d, cc = .vsl l a c d → l ≠ R.l
 r : ∀ i, i < rows.length → ∃ (p : Int) (c1 c2 : C), rows.getD i [] = [.int .i64 p, c1, c2] ∧ 0 ≤ p ∧ p ≤ 3
theorem CRd.keep {R : Rdr} {cc : C} {rows : List (List C)} {o : Obj} {H' : Heap} {L : List (Nat × Obj)} (h : CRd H R cc rows) (kn : Kn H H' [(R.l, o)] L) : CRd H' R cc rows :=
 ⟨h.s.keep kn (fun l a c d hh => by simpa using h.ne l a c d hh), h.ow, h.ne, h.r⟩
theorem Qa23 {R : Rdr} {k b n : Nat} (hH : H R.l = R.o k) (hk : k + 2 ≤ 2^40) (hb : b ≤ 1000) (hn : n ≤ 1000)
  (hK : ∀ (v : Int) (H' : Heap) (k' : Nat), k < k' → k' ≤ k + 2 → Upd H H' [(R.l, R.o k')] → K (.c (.int .i64 v)) H') :
  Qp prog Q5t [.c (.ptr R.l 0), .c (.int .i64 b), .c (.int .i64 n)] H K := by
 refine Q0 ?_
 refine Qb Qat Qbcf ?_
 have kn := Kn.start1 hH (R.o_ne k)
 refine Qa ?_
 simp only [go_sem, reduceIte, reduceEqDiff, reduceAdd, reduceLeDiff, reduceLT, reduceCtorEq]
 refine Q4 ?_
 refine Qa ?_
 simp only [go_sem, reduceIte, reduceEqDiff, reduceAdd, reduceLeDiff, reduceLT, reduceCtorEq]
 refine ⟨Qo (by omega) (by omega), ?_⟩
 have rest : ∀ (v : Bool) (H2 : Heap) (k2 : Nat), k ≤ k2 → k2 ≤ k + 1 → Kn H H2 [(R.l, R.o k2)] [] →
   Qah prog (s_l7To_2.seq Qayb) (Qz Qax6 fun x H' => ∃ x', FrzV H' (un H) x x' ∧ K x' (H'.frz (un H))) [(0, .c (.ptr R.l 0)), (1, .c (.int .i64 b)), (2, .c (.int .i64 n)), (15, .c (.bool v))] H2 := by
  intro v H2 k2 hk1 hk2 kn
  have pv : ∀ m v : Int, m ≤ 1000 → (if m < 1 then v = 0 else 0 ≤ v ∧ v < m) → 0 ≤ v ∧ v ≤ 1000 := by
   intro m v hm hv
   split at hv <;> omega
  refine Qh (Qd rfl ?_ ?_)
  ·intro hc
   refine Qa ?_
   simp only [go_sem, reduceIte, reduceEqDiff, reduceAdd, reduceLeDiff, reduceLT, reduceCtorEq]
   refine ⟨Qo (by omega) (by omega), Qo (by omega) (by omega), Qo (by omega) (by omega), ?_⟩
   refine Qa7 (kn.e 0 rfl) (by omega) fun v H3 hv hu => ?_
   have kn := kn.callE 0 rfl hu (R.o_ne _)
   have hv := pv _ _ (by omega) hv
   simp only [go_sem, Qapu, reduceIte, reduceEqDiff, reduceAdd, reduceLeDiff, reduceLT, reduceCtorEq]
   refine ⟨Qo (by omega) (by omega), ?_⟩
   refine Qj ?_
   simp only [go_sem, Qz, Qac, Qax6, reduceIte, List.mem_singleton, forall_eq, RS.op, reduceIte, reduceEqDiff, reduceAdd, reduceLeDiff, reduceLT, reduceCtorEq]
   exact ⟨_, .c _ _ (Qi rfl), hK _ _ (k2 + 1) (by omega) (by omega) kn.fin⟩
  ·intro hc
   refine Qf ?_
   simp only [go_sem]
   refine Qa ?_
   simp only [go_sem, reduceIte, reduceEqDiff, reduceAdd, reduceLeDiff, reduceLT, reduceCtorEq]
   refine ⟨Qo (by omega) (by omega), ?_⟩
   refine Qa7 (kn.e 0 rfl) (by omega) fun v H3 hv hu => ?_
   have kn := kn.callE 0 rfl hu (R.o_ne _)
   have hv := pv _ _ (by omega) hv
   simp only [go_sem, Qapv, reduceIte, reduceEqDiff, reduceAdd, reduceLeDiff, reduceLT, reduceCtorEq]
   refine ⟨Qo (by omega) (by omega), ?_⟩
   refine Qj ?_
   simp only [go_sem, Qz, Qac, Qax6, reduceIte, List.mem_singleton, forall_eq, RS.op, reduceIte, reduceEqDiff, reduceAdd, reduceLeDiff, reduceLT, reduceCtorEq]
   exact ⟨_, .c _ _ (Qi rfl), hK _ _ (k2 + 1) (by omega) (by omega) kn.fin⟩
 refine ⟨fun hb1 => ?_, fun hb1 => ?_⟩
 ·refine Qa7 (kn.e 0 rfl) (by omega) fun v H3 hv hu => ?_
  have kn := kn.callE 0 rfl hu (R.o_ne _)
  simp only [go_sem, Qaau, hb1, reduceIte, reduceEqDiff, reduceAdd, reduceLeDiff, reduceLT, reduceCtorEq]
  exact rest _ _ (k + 1) (by omega) (by omega) kn
 ·simp only [go_sem, Qaau, hb1, reduceIte, reduceEqDiff, reduceAdd, reduceLeDiff, reduceLT, reduceCtorEq]
  exact rest _ _ k (by omega) (by omega) kn
set_option maxHeartbeats 2000000 in
theorem Qa60 {R : Rdr} {k : Nat} {cc : C} {rows : List (List C)} {regs : Int} (hH : H R.l = R.o k) (hk : k + 9 ≤ 2^40) (hc : CRd H R cc rows)
  (hK : ∀ (x : InsD) (H' : Heap) (k' : Nat), k < k' → k' ≤ k + 9 → Upd H H' [(R.l, R.o k')] → x.args.length ≤ 3 → K (.ag x.cells) H') :
  Qp prog Q5s [.c (.ptr R.l 0), .ag [cc], .c (.int .i64 regs)] H K := by
 refine Q0 ?_
 refine Qb Qat Qa7j ?_
 have how := hc.ow
 have hlen := hc.s.len
 have hesz := hc.s.sz
 refine Qa ?_
 simp only [go_sem, how, reduceIte, reduceEqDiff, reduceAdd, reduceLeDiff, reduceLT, reduceCtorEq]
 intro x6 hx6 H1 h1
 have kn := (Kn.start1 hH (R.o_ne k)).al hx6 h1
 refine Qa ?_
 simp only [go_sem, reduceIte, reduceEqDiff, reduceAdd, reduceLeDiff, reduceLT, reduceCtorEq]
 refine Qi6 (ns := [1, 1, 2, 3, 4, 5, 8, 9, 10, 13, 3, 6, 7, 11, 12, 14]) (kn.e 0 rfl) (by omega) (by simp) fun op H2 hop hu => ?_
 have kn := kn.callE 0 rfl hu (R.o_ne _)
 simp only [go_sem, Qaap, reduceIte, reduceEqDiff, reduceAdd, reduceLeDiff, reduceLT, reduceCtorEq]
 refine Qa ?_
 simp only [go_sem, reduceIte, reduceEqDiff, reduceAdd, reduceLeDiff, reduceLT, reduceCtorEq]
 refine Qa7 (kn.e 0 rfl) (by omega) fun to H3 hto hu => ?_
 have kn := kn.callE 0 rfl hu (R.o_ne _)
 simp only [go_sem, Qaaq, Qvl, reduceIte, reduceEqDiff, reduceAdd, reduceLeDiff, reduceLT, reduceCtorEq]
 intro x8 hx8 H4 h4
 have kn := kn.al hx8 h4
 have hx84 := kn.l 1 rfl
 simp only [go_sem, Qvl, hx84, reduceIte, reduceEqDiff, reduceAdd, reduceLeDiff, reduceLT, reduceCtorEq]
 intro H5 h5
 have kn := kn.stL 1 rfl h5
 refine Qa ?_
 simp only [go_sem, reduceIte, reduceEqDiff, reduceAdd, reduceLeDiff, reduceLT, reduceCtorEq]
 refine Qa21 fun many hm1 hm2 => ?_
 simp only [go_sem, Qaar, reduceIte, reduceEqDiff, reduceAdd, reduceLeDiff, reduceLT, reduceCtorEq]
 have args : ∀ (many : Int) (to n : Int) (H6 : Heap) (k6 : Nat), many ≤ 3 → k < k6 → k6 ≤ k + 4 → Kn H H6 [(R.l, R.o k6)] [(x6, .st [.int .i64 0, .int .i64 0, .sl true 1 [], .int .i64 0]), (x8, .st [.int .i64 op, .int .i64 to, .sl true 1 [], .int .i64 n])] →
   Qah prog Qaam (Qz Qsd fun x H' => ∃ x', FrzV H' (un H) x x' ∧ K x' (H'.frz (un H))) [(0, .c (.ptr R.l 0)), (2, .c (.int .i64 regs)), (6, .c (.ptr x6 0)), (8, .c (.ptr x8 0)), (9, .c (.int .i64 many))] H6 := by
  intro many to n H6 k6 hmany hk1 hk2 kn
  refine Q4 ?_
  refine Qa ?_
  simp only [go_sem, reduceIte, reduceEqDiff, reduceAdd, reduceLeDiff, reduceLT, reduceCtorEq]
  refine Qh (Qc (Qu (fun m e1 H1 => ∃ (i : Nat) (ns : List Int) (ac : C) (al : List (Nat × Obj)), m = 3 - i ∧ i ≤ 3 ∧ ns.length = i ∧ Gr al 1 (Qe ns) ac ∧
   Kn H H1 [(R.l, R.o (k6 + i))] ([(x6, .st [.int .i64 0, .int .i64 0, .sl true 1 [], .int .i64 0]), (x8, .st [.int .i64 op, .int .i64 to, ac, .int .i64 n])] ++ al) ∧
   e1 = [(0, .c (.ptr R.l 0)), (2, .c (.int .i64 regs)), (6, .c (.ptr x6 0)), (8, .c (.ptr x8 0)), (9, .c (.int .i64 many)), (10, .c (.int .i64 i))]) 3 ?_ ?_))
  ·exact ⟨0, [], _, [], by omega, by omega, rfl, .nil 1, by simpa using kn, rfl⟩
  ·rintro m e1 H7 ⟨i, ns, ac, al, hm, hi, hns, hgr, kn, rfl⟩
   have hacow := hgr.isOw
   have hx8 := kn.l 1 rfl
   refine Q4 ?_
   refine Qa ?_
   simp only [go_sem, reduceIte, reduceEqDiff, reduceAdd, reduceLeDiff, reduceLT, reduceCtorEq]
   refine Qh (Qd rfl ?_ ?_)
   ·intro hc
    have hlt : (i : Int) < many := by simpa using hc
    refine Qf ?_
    simp only [go_sem]
    refine Qh (Qc ?_)
    refine Qbw ?_
    simp only [go_sem, hx8, hacow, reduceIte, reduceEqDiff, reduceAdd, reduceLeDiff, reduceLT, reduceCtorEq]
    refine Qa7 (kn.e 0 rfl) (by omega) fun v H8 hv hu => ?_
    have kn := kn.callE 0 rfl hu (R.o_ne _)
    have hx8 := kn.l 1 rfl
    simp only [go_sem, Q2g, hx8, hacow, reduceIte, reduceEqDiff, reduceAdd, reduceLeDiff, reduceLT, reduceCtorEq]
    refine kn.grow (new := Qe [v]) hgr (.mk' _ _ _ _) (Qx _) (by simp only [Qg, LIM, List.length_cons, List.length_nil]; omega) fun y H9 kn => ?_
    have hx8 := kn.l 1 rfl
    simp only [go_sem, Q2f, hx8, reduceIte, reduceEqDiff, reduceAdd, reduceLeDiff, reduceLT, reduceCtorEq]
    intro H10 h10
    have kn := kn.stL 1 rfl h10
    refine Qq ?_
    simp only [go_sem, X.next, reduceIte, reduceEqDiff, reduceAdd, reduceLeDiff, reduceLT, reduceCtorEq]
    refine ⟨Qo (by omega) (by omega), 3 - (i + 1), by omega, i + 1, ns ++ [v], _, _, rfl, by omega, by simp [hns], ?_, kn, rfl⟩
    rw [← Qdb]
    exact .mk _ _ _ (by simp [Qdb, Qg])
   ·intro hc
    refine Qt ?_
    simp only [go_sem, X.next]
    have hx6 := kn.l 0 rfl
    refine Qa ?_
    simp only [go_sem, hx8, hx6, hacow, reduceIte, reduceEqDiff, reduceAdd, reduceLeDiff, reduceLT, reduceCtorEq]
    intro H8 h8
    have kn : Kn H H8 [(R.l, R.o (k6 + i))] ([(x6, .st [.int .i64 op, .int .i64 to, ac, .int .i64 n]), (x8, .st [.int .i64 op, .int .i64 to, ac, .int .i64 n])] ++ al) := kn.stL 0 rfl h8
    have hx6 := kn.l 0 rfl
    refine Qj ?_
    simp only [go_sem, Qz, Qac, Qsd, reduceIte, List.mem_singleton, forall_eq, RS.op, hx6, hacow, reduceIte, reduceEqDiff, reduceAdd, reduceLeDiff, reduceLT, reduceCtorEq]
    exact ⟨.ag (InsD.mk op to ns n).cells, FrzL.ag (.cons (Qi rfl) (.cons (Qi rfl) (.cons (hgr.frz kn (Qx _)) (.cons (Qi rfl) .nil)))), hK ⟨op, to, ns, n⟩ _ (k6 + i) (by omega) (by omega) kn.fin (by show ns.length ≤ 3; omega)⟩
 have rest : ∀ (many n : Int) (H6 : Heap) (k6 : Nat) (E1 : Env), lk 0 E1 = .c (.ptr R.l 0) → lk 2 E1 = .c (.int .i64 regs) → lk 6 E1 = .c (.ptr x6 0) → lk 7 E1 = .c (.int .i64 op) → lk 8 E1 = .c (.ptr x8 0) → lk 9 E1 = .c (.int .i64 many) → many ≤ 3 → k < k6 → k6 ≤ k + 3 → Kn H H6 [(R.l, R.o k6)] [(x6, .st [.int .i64 0, .int .i64 0, .sl true 1 [], .int .i64 0]), (x8, .st [.int .i64 op, .int .i64 to, .sl true 1 [], .int .i64 n])] →
   Qah prog Qaao (Qz Qsd fun x H' => ∃ x', FrzV H' (un H) x x' ∧ K x' (H'.frz (un H))) E1 H6 := by
  intro many n H6 k6 E1 l0 l2 l6 l7 l8 l9 hmany hk1 hk2 kn
  have rest2 : ∀ (n : Int) (H6 : Heap) (k6 : Nat) (E1 : Env), lk 0 E1 = .c (.ptr R.l 0) → lk 2 E1 = .c (.int .i64 regs) → lk 6 E1 = .c (.ptr x6 0) → lk 7 E1 = .c (.int .i64 op) → lk 8 E1 = .c (.ptr x8 0) → lk 9 E1 = .c (.int .i64 many) → k < k6 → k6 ≤ k + 4 → Kn H H6 [(R.l, R.o k6)] [(x6, .st [.int .i64 0, .int .i64 0, .sl true 1 [], .int .i64 0]), (x8, .st [.int .i64 op, .int .i64 to, .sl true 1 [], .int .i64 n])] →
    Qah prog Qaan (Qz Qsd fun x H' => ∃ x', FrzV H' (un H) x x' ∧ K x' (H'.frz (un H))) E1 H6 := by
   intro n H6 k6 E1 l0 l2 l6 l7 l8 l9 hk1 hk2 kn
   refine Q4 ?_
   refine Qa ?_
   simp only [go_sem, reduceIte, reduceEqDiff, reduceAdd, reduceLeDiff, reduceLT, reduceCtorEq]
   simp only [l7, true_and]
   refine Qv6 ?_
   simp only [go_sem, Q2e, l0, l2, l6, l7, l8, l9, reduceIte, reduceEqDiff, reduceAdd, reduceLeDiff, reduceLT, reduceCtorEq]
   refine Qh (Qd rfl ?_ ?_)
   ·intro hc
    have hx8 := kn.l 1 rfl
    refine Qq ?_
    simp only [go_sem, hx8, reduceIte, reduceEqDiff, reduceAdd, reduceLeDiff, reduceLT, reduceCtorEq]
    intro H7 h7
    have kn := kn.stL 1 rfl h7
    exact args many (-1) n H7 k6 hmany hk1 hk2 kn
   ·intro hc
    refine Qf ?_
    simp only [go_sem]
    exact args many to n H6 k6 hmany hk1 hk2 kn
  refine Q4 ?_
  refine Qa ?_
  simp only [go_sem, l0, l2, l6, l7, l8, l9, reduceIte, reduceEqDiff, reduceAdd, reduceLeDiff, reduceLT, reduceCtorEq]
  refine Qh (Qd rfl ?_ ?_)
  ·intro hc
   refine Qq ?_
   simp only [go_sem, reduceIte, reduceEqDiff, reduceAdd, reduceLeDiff, reduceLT, reduceCtorEq]
   refine Qi6 (ns := [0, 1, 2, 3, 15, 16, 255]) (kn.e 0 rfl) (by omega) (by simp) fun n2 H7 hn2 hu => ?_
   have kn := kn.callE 0 rfl hu (R.o_ne _)
   have hx8 := kn.l 1 rfl
   simp only [go_sem, Q2d, hx8, reduceIte, reduceEqDiff, reduceAdd, reduceLeDiff, reduceLT, reduceCtorEq]
   intro H8 h8
   have kn := kn.stL 1 rfl h8
   exact rest2 n2 H8 (k6 + 1) _ (by simp [lk]) (by simp [lk]) (by simp [lk]) (by simp [lk]) (by simp [lk]) (by simp [lk]) (by omega) (by omega) kn
  ·intro hc
   refine Qf ?_
   simp only [go_sem]
   exact rest2 n H6 k6 _ (by simp [lk]) (by simp [lk]) (by simp [lk]) (by simp [lk]) (by simp [lk]) (by simp [lk]) (by omega) (by omega) kn
 refine Q4 ?_
 refine Qa ?_
 simp only [go_sem, reduceIte, reduceEqDiff, reduceAdd, reduceLeDiff, reduceLT, reduceCtorEq]
 refine Qh (Qd rfl ?_ ?_)
 ·intro hop14
  have hc5 := hc.keep kn
  have hok5 := eq_true hc5.s.ok
  refine Q4 ?_
  refine Qa ?_
  simp only [go_sem, how, hlen, hok5, reduceIte, reduceEqDiff, reduceAdd, reduceLeDiff, reduceLT, reduceCtorEq]
  intro hl
  refine Qh (Qd rfl ?_ ?_)
  ·intro h0
   refine Qa ?_
   simp only [go_sem, reduceIte, reduceEqDiff, reduceAdd, reduceLeDiff, reduceLT, reduceCtorEq]
   refine Qa7 (kn.e 0 rfl) (by omega) fun v H6 hv hu => ?_
   have kn := kn.callE 0 rfl hu (R.o_ne _)
   have hx6 := kn.l 0 rfl
   simp only [go_sem, Qaas, hx6, reduceIte, reduceEqDiff, reduceAdd, reduceLeDiff, reduceLT, reduceCtorEq]
   intro H7 h7
   have kn := kn.stL 0 rfl h7
   have hx6 := kn.l 0 rfl
   refine Qj ?_
   simp only [go_sem, Qz, Qac, Qsd, reduceIte, List.mem_singleton, forall_eq, RS.op, hx6, reduceIte, reduceEqDiff, reduceAdd, reduceLeDiff, reduceLT, reduceCtorEq]
   exact ⟨.ag (InsD.mk 13 (-1) [v] 0).cells, FrzL.ag (.cons (Qi rfl) (.cons (Qi rfl) (.cons (FrzR.same (Qx [v])).sl (.cons (Qi rfl) .nil)))), hK ⟨13, -1, [v], 0⟩ _ (k + 3) (by omega) (by omega) kn.fin (by simp)⟩
  ·intro h0
   have hpos : 0 < rows.length := by
    have : ¬ rows.length = 0 := by simpa using h0
    omega
   refine Qf ?_
   simp only [go_sem]
   refine Qa ?_
   simp only [go_sem, how, hlen, hok5, reduceIte, reduceEqDiff, reduceAdd, reduceLeDiff, reduceLT, reduceCtorEq]
   intro _
   refine Qa7 (kn.e 0 rfl) (by omega) fun v H6 hv hu => ?_
   have kn := kn.callE 0 rfl hu (R.o_ne _)
   rw [if_neg (by omega)] at hv
   obtain ⟨i, rfl⟩ := Int.eq_ofNat_of_zero_le hv.1
   have hi : i < rows.length := by omega
   obtain ⟨p, c1, c2, hrow, hp0, hp3⟩ := hc.r i hi
   have hx8 := kn.l 1 rfl
   simp only [go_sem, Qaat, hx8, reduceIte, reduceEqDiff, reduceAdd, reduceLeDiff, reduceLT, reduceCtorEq]
   intro H7 h7
   have kn := kn.stL 1 rfl h7
   have hx8 := kn.l 1 rfl
   have hc7 := hc.keep kn
   have hok7 := eq_true hc7.s.ok
   have hrw7 := hc7.s.rows
   refine Qq ?_
   simp only [go_sem, how, hlen, hok7, hrw7, hesz, hx8, hi, hrow, reduceIte, reduceEqDiff, reduceAdd, reduceLeDiff, reduceLT, reduceCtorEq]
   exact rest p i H7 (k + 3) _ (by simp [lk]) (by simp [lk]) (by simp [lk]) (by simp [lk]) (by simp [lk]) (by simp [lk]) (by omega) (by omega) (by omega) kn
 ·intro hop14
  refine Qf ?_
  simp only [go_sem]
  exact rest many 0 H5 (k + 2) _ (by simp [lk]) (by simp [lk]) (by simp [lk]) (by simp [lk]) (by simp [lk]) (by simp [lk]) (by omega) (by omega) (by omega) kn
end Go.AE.Y

namespace Go.AE.Y
open Go.Proofs.Tryz
variable {H : Heap} {K : V → Heap → Prop}
theorem Qba0 {α : Type} {a M b c : List α} : (a ++ (M ++ b) ++ c).Perm (((M ++ c) ++ b) ++ a) := by
 refine List.perm_append_comm.trans ?_
 refine (List.Perm.append_left _ (List.perm_append_comm (l₁ := a))).trans ?_
 rw [← List.append_assoc]
 refine .append_right _ ?_
 rw [← List.append_assoc]
 exact .append_right _ List.perm_append_comm
def EnvA (R : Rdr) (cc : C) (x4 x5 x8 n b : Nat) (e : Env) : Prop :=
 lk 0 e = .c (.ptr R.l 0) ∧ lk 3 e = .c (.pp [cc]) ∧ lk 4 e = .c (.ptr x4 0) ∧ lk 5 e = .c (.ptr x5 0) ∧ lk 6 e = .c (.int .i64 n) ∧ lk 7 e = .c (.int .i64 b) ∧ lk 8 e = .c (.ptr x8 0)
set_option maxHeartbeats 4000000 in
theorem Qa6y {R : Rdr} {k : Nat} {cc : C} {rows : List (List C)} (hH : H R.l = R.o k) (hk : k + 1000 ≤ 2^40) (hc : CRd H R cc rows)
  (hK : ∀ (o : UCode) (H' : Heap) (k' : Nat), k < k' → k' ≤ k + 1000 → Kn H H' [(R.l, R.o k')] o.lg → o.ok → o.sm 0 → K (.ag o.row) H') :
  Qp prog Q5q [.c (.ptr R.l 0), .ag [cc]] H K := by
 refine Qew ?_
 refine Qb Qat Qa7g ?_
 have how := hc.ow
 refine Qa ?_
 simp only [go_sem, how, reduceIte, reduceEqDiff, reduceAdd, reduceLeDiff, reduceLT, reduceCtorEq]
 intro x4 hx4 H1 h1
 have kn := (Kn.start1 hH (R.o_ne k)).al hx4 h1
 refine Qa ?_
 simp only [go_sem, reduceIte, reduceEqDiff, reduceAdd, reduceLeDiff, reduceLT, reduceCtorEq]
 refine Qi6 (ns := [1, 0, 2, 3]) (kn.e 0 rfl) (by omega) (by simp) fun p H2 hp hu => ?_
 have kn := kn.callE 0 rfl hu (R.o_ne _)
 have hp : 0 ≤ p ∧ p ≤ 3 := by simp at hp; omega
 simp only [go_sem, Q95, reduceIte, reduceEqDiff, reduceAdd, reduceLeDiff, reduceLT, reduceCtorEq]
 intro x5 hx5 H3 h3
 have kn := kn.al hx5 h3
 have hx53 := kn.l 1 rfl
 simp only [go_sem, Q94, hx53, reduceIte, reduceEqDiff, reduceAdd, reduceLeDiff, reduceLT, reduceCtorEq]
 intro H4 h4
 have kn := kn.stL 1 rfl h4
 have hx54 := kn.l 1 rfl
 refine Qan ?_
 simp only [go_sem, hx54, reduceIte, reduceEqDiff, reduceAdd, reduceLeDiff, reduceLT, reduceCtorEq]
 refine ⟨Qo (by omega) (by omega), ?_⟩
 refine Qa7 (kn.e 0 rfl) (by omega) fun q H5 hq hu => ?_
 have kn := kn.callE 0 rfl hu (R.o_ne _)
 have hx55 := kn.l 1 rfl
 rw [if_neg (by omega)] at hq
 simp only [go_sem, Q96, hx55, reduceIte, reduceEqDiff, reduceAdd, reduceLeDiff, reduceLT, reduceCtorEq]
 refine ⟨Qo (by omega) (by omega), ?_⟩
 intro H6 h6
 have kn := kn.stL 1 rfl h6
 obtain ⟨rg, hrg⟩ : ∃ rg, p + 2 + q = rg := ⟨_, rfl⟩
 rw [hrg] at kn
 refine Qa ?_
 simp only [go_sem, reduceIte, reduceEqDiff, reduceAdd, reduceLeDiff, reduceLT, reduceCtorEq]
 refine Qi6 (ns := [3, 5, 2, 1, 7, 4]) (kn.e 0 rfl) (by omega) (by simp) fun n0 H7 hn0 hu => ?_
 have kn := kn.callE 0 rfl hu (R.o_ne _)
 simp only [go_sem, Q97, reduceIte, reduceEqDiff, reduceAdd, reduceLeDiff, reduceLT, reduceCtorEq]
 obtain ⟨n, rfl, hn1, hn7⟩ : ∃ n : Nat, n0 = n ∧ 1 ≤ n ∧ n ≤ 7 := ⟨n0.toNat, by simp at hn0; omega⟩
 refine Q4 ?_
 refine Qa ?_
 simp only [go_sem, reduceIte, reduceEqDiff, reduceAdd, reduceLeDiff, reduceLT, reduceCtorEq]
 refine Qh (Qc (Qu (fun m e1 H1 => ∃ (b k1 : Nat) (bs : List UBlk) (bc : C) (bl : List (Nat × Obj)), m = n - b ∧ b ≤ n ∧ bs.length = b ∧ k < k1 ∧ k1 ≤ k + 3 + 50 * b ∧ (∀ o ∈ bs, o.ok ∧ o.sm 0) ∧ Gr bl 5 (bs.map UBlk.row) bc ∧
  Kn H H1 [(R.l, R.o k1)] (([(x4, .st [.int .i64 0, .int .i64 0, .sl true 5 []]), (x5, .st [.int .i64 p, .int .i64 rg, bc])] ++ bs.flatMap UBlk.lg) ++ bl) ∧
  e1 = [(0, .c (.ptr R.l 0)), (3, .c (.pp [cc])), (4, .c (.ptr x4 0)), (5, .c (.ptr x5 0)), (6, .c (.int .i64 n)), (7, .c (.int .i64 b))]) n ?_ ?_))
 ·exact ⟨0, k + 1 + 1 + 1, [], _, [], by omega, by omega, rfl, by omega, by omega, by simp, .nil 5, by simpa using kn, rfl⟩
 ·rintro m e1 H8 ⟨b, k1, bs, bc, bl, hm, hb, hbs, hk1, hk2, hok, hgr, kn, rfl⟩
  have hbow := hgr.isOw
  refine Q4 ?_
  refine Qa ?_
  simp only [go_sem, reduceIte, reduceEqDiff, reduceAdd, reduceLeDiff, reduceLT, reduceCtorEq]
  refine Qh (Qd rfl ?_ ?_)
  ·intro hc1
   have hlt : b < n := by simpa using hc1
   refine Qf ?_
   simp only [go_sem]
   refine Qh (Qc ?_)
   refine Qa ?_
   simp only [go_sem, reduceIte, reduceEqDiff, reduceAdd, reduceLeDiff, reduceLT, reduceCtorEq]
   intro x8 hx8 H9 h9
   have kn := kn.al hx8 h9
   have kn := kn.perm List.perm_append_comm
   have hx89 := kn.l 0 rfl
   simp only [go_sem, Q98, hx89, reduceIte, reduceEqDiff, reduceAdd, reduceLeDiff, reduceLT, reduceCtorEq]
   intro H10 h10
   have kn := kn.stL 0 rfl h10
   refine Q4 ?_
   refine Qa ?_
   simp only [go_sem, reduceIte, reduceEqDiff, reduceAdd, reduceLeDiff, reduceLT, reduceCtorEq]
   refine Qi6 (ns := [1, 2, 0, 3, 4]) (kn.e 0 rfl) (by omega) (by simp) fun i0 H11 hi0 hu => ?_
   have kn := kn.callE 0 rfl hu (R.o_ne _)
   simp only [go_sem, Q99, reduceIte, reduceEqDiff, reduceAdd, reduceLeDiff, reduceLT, reduceCtorEq]
   obtain ⟨i, rfl, hi4⟩ : ∃ i : Nat, i0 = i ∧ i ≤ 4 := ⟨i0.toNat, by simp at hi0; omega⟩
   refine Qh (Qc (Qu (fun m e1 H1 => ∃ (t k2 : Nat) (ds : List InsD) (ic : C) (il : List (Nat × Obj)), m = t ∧ t + ds.length = i ∧ k1 < k2 ∧ k2 ≤ k1 + 1 + 9 * ds.length ∧ (∀ d ∈ ds, d.args.length ≤ 3) ∧ Gr il 4 (Qaj ds) ic ∧
    Kn H H1 [(R.l, R.o k2)] (([(x8, .st [.sl true 2 [], ic, .int .i64 0, .int .i64 0, .sl true 1 []])] ++ (([(x4, .st [.int .i64 0, .int .i64 0, .sl true 5 []]), (x5, .st [.int .i64 p, .int .i64 rg, bc])] ++ bs.flatMap UBlk.lg) ++ bl)) ++ il) ∧
    e1 = [(0, .c (.ptr R.l 0)), (3, .c (.pp [cc])), (4, .c (.ptr x4 0)), (5, .c (.ptr x5 0)), (6, .c (.int .i64 n)), (7, .c (.int .i64 b)), (8, .c (.ptr x8 0)), (9, .c (.int .i64 t))]) i ?_ ?_))
   ·refine ⟨i, k1 + 1, [], _, [], rfl, rfl, by omega, by simp, by simp, .nil 4, by simpa using kn, rfl⟩
   ·rintro m2 e1 H12 ⟨t, k2, ds, ic, il, hm2, ht, hk3, hk4, hds, hgi, kn, rfl⟩
    have hicow := hgi.isOw
    have hx8 := kn.l 0 rfl
    have hx5 := kn.l 2 rfl
    refine Q4 ?_
    refine Qa ?_
    simp only [go_sem, reduceIte, reduceEqDiff, reduceAdd, reduceLeDiff, reduceLT, reduceCtorEq]
    refine Qh (Qd rfl ?_ ?_)
    ·intro hc2
     have ht0 : 0 < t := by simpa using hc2
     refine Qf ?_
     simp only [go_sem]
     refine Qh (Qc ?_)
     refine Qbw ?_
     simp only [go_sem, hx8, hx5, hicow, hbow, how, reduceIte, reduceEqDiff, reduceAdd, reduceLeDiff, reduceLT, reduceCtorEq]
     refine Qa60 (kn.e 0 rfl) (by omega) (hc.keep kn) fun d H13 k3 hk5 hk6 hu hd => ?_
     have kn := kn.callE 0 rfl hu (R.o_ne _)
     have hx8 := kn.l 0 rfl
     simp only [go_sem, Qaab, hx8, hicow, InsD.take4, InsD.allOw, InsD.len4, reduceIte, reduceEqDiff, reduceAdd, reduceLeDiff, reduceLT, reduceCtorEq]
     refine kn.grow (new := [d.cells]) hgi (.mk' _ _ _ _) (by intro r hr; simp only [List.mem_singleton] at hr; subst hr; rfl) (by simp only [Qab, LIM, List.length_cons, List.length_nil]; omega) fun y H14 kn => ?_
     have hx8 := kn.l 0 rfl
     simp only [go_sem, Qaaa, hx8, reduceIte, reduceEqDiff, reduceAdd, reduceLeDiff, reduceLT, reduceCtorEq]
     intro H15 h15
     have kn := kn.stL 0 rfl h15
     refine Qq ?_
     simp only [go_sem, X.next, reduceIte, reduceEqDiff, reduceAdd, reduceLeDiff, reduceLT, reduceCtorEq]
     refine ⟨Qo (by omega) (by omega), t - 1, by omega, t - 1, k3, ds ++ [d], _, _, rfl, by simp; omega, by omega, by simp; omega, fun d' hd' => ?_, ?_, kn, ?_⟩
     ·rcases List.mem_append.1 hd' with h | h
      ·exact hds _ h
      ·simp only [List.mem_singleton] at h; subst h; exact hd
     ·rw [Qay3]; exact .mk _ _ _ (by simp [Qab])
     ·have : (t : Int) - 1 = ((t - 1 : Nat) : Int) := by omega
      rw [this]
    ·intro hc2
     have ht0 : t = 0 := by have : ¬ 0 < t := (by simpa using hc2); omega
     refine Qt ?_
     simp only [go_sem, X.next]
     refine Qa ?_
     simp only [go_sem, hx5, hbow, reduceIte, reduceEqDiff, reduceAdd, reduceLeDiff, reduceLT, reduceCtorEq]
     refine Qa7 (kn.e 0 rfl) (by omega) fun on H13 hon hu => ?_
     have kn := kn.callE 0 rfl hu (R.o_ne _)
     have hx8 := kn.l 0 rfl
     simp only [go_sem, Q15, hx8, hicow, reduceIte, reduceEqDiff, reduceAdd, reduceLeDiff, reduceLT, reduceCtorEq]
     intro H14 h14
     have kn := kn.stL 0 rfl h14
     refine Qa ?_
     simp only [go_sem, reduceIte, reduceEqDiff, reduceAdd, reduceLeDiff, reduceLT, reduceCtorEq]
     refine Qi6 (ns := [2, 1, 2, 1, 3]) (kn.e 0 rfl) (by omega) (by simp) fun jump H15 hjump hu => ?_
     have kn := kn.callE 0 rfl hu (R.o_ne _)
     have hx8 := kn.l 0 rfl
     simp only [go_sem, Q16, hx8, hicow, reduceIte, reduceEqDiff, reduceAdd, reduceLeDiff, reduceLT, reduceCtorEq]
     intro H16 h16
     have kn := kn.stL 0 rfl h16
     refine Qdm (fun e2 H2 => ∃ (k2 : Nat) (jump : Int), k1 < k2 ∧ k2 ≤ k1 + 40 ∧ Kn H H2 [(R.l, R.o k2)] (([(x8, .st [.sl true 2 [], ic, .int .i64 jump, .int .i64 on, .sl true 1 []])] ++ (([(x4, .st [.int .i64 0, .int .i64 0, .sl true 5 []]), (x5, .st [.int .i64 p, .int .i64 rg, bc])] ++ bs.flatMap UBlk.lg) ++ bl)) ++ il) ∧ EnvA R cc x4 x5 x8 n b e2) ?_ ?_
     ·intro Q hn _ _
      have rest : ∀ (v : Bool) (H2 : Heap) (k2 : Nat), k1 < k2 → k2 ≤ k1 + 40 → Kn H H2 [(R.l, R.o k2)] (([(x8, .st [.sl true 2 [], ic, .int .i64 jump, .int .i64 on, .sl true 1 []])] ++ (([(x4, .st [.int .i64 0, .int .i64 0, .sl true 5 []]), (x5, .st [.int .i64 p, .int .i64 rg, bc])] ++ bs.flatMap UBlk.lg) ++ bl)) ++ il) →
        Qah prog Q93 Q [(0, .c (.ptr R.l 0)), (3, .c (.pp [cc])), (4, .c (.ptr x4 0)), (5, .c (.ptr x5 0)), (6, .c (.int .i64 n)), (7, .c (.int .i64 b)), (8, .c (.ptr x8 0)), (68, .c (.bool v))] H2 := by
       intro v H2 k2 hk1 hk2 kn
       refine Qd rfl ?_ ?_
       ·intro hc
        have hx8 := kn.l 0 rfl
        refine Qq ?_
        simp only [go_sem, hx8, hicow, reduceIte, reduceEqDiff, reduceAdd, reduceLeDiff, reduceLT, reduceCtorEq]
        intro H3 h3
        have kn := kn.stL 0 rfl h3
        exact hn _ _ ⟨k2, 3, hk1, hk2, kn, rfl, rfl, rfl, rfl, rfl, rfl, rfl⟩
       ·intro hc
        refine Qf ?_
        exact hn _ _ ⟨k2, jump, hk1, hk2, kn, rfl, rfl, rfl, rfl, rfl, rfl, rfl⟩
      refine Qa ?_
      simp only [go_sem, reduceIte, reduceEqDiff, reduceAdd, reduceLeDiff, reduceLT, reduceCtorEq]
      refine ⟨fun _ => Qo (by omega) (by omega), ?_⟩
      refine ⟨fun hb1 => ?_, fun hb1 => ?_⟩
      ·refine Qa7 (kn.e 0 rfl) (by omega) fun v H17 hv hu => ?_
       have kn := kn.callE 0 rfl hu (R.o_ne _)
       simp only [go_sem, Qhz, hb1, reduceIte, reduceEqDiff, reduceAdd, reduceLeDiff, reduceLT, reduceCtorEq]
       exact rest _ _ _ (by omega) (by omega) kn
      ·by_cases h1 : (n : Int) = 1
       ·have hd := decide_eq_true h1
        have hd2 : decide ((b : Int) = n - 1) = true := decide_eq_true (by omega)
        simp only [go_sem, Qhz, hd, hd2, Bool.not_true, cond_true, cond_false, reduceIte, reduceEqDiff, reduceAdd, reduceLeDiff, reduceLT, reduceCtorEq]
        exact rest true _ _ (by omega) (by omega) kn
       ·have h2 : ¬ (b : Int) = n - 1 := by simpa [h1] using hb1
        simp only [go_sem, Qhz, hb1, h1, h2, decide_false, Bool.not_false, cond_true, cond_false, reduceIte, reduceEqDiff, reduceAdd, reduceLeDiff, reduceLT, reduceCtorEq]
        exact rest false _ _ (by omega) (by omega) kn
     rintro e2 H17 ⟨k3, jump, hk5, hk6, kn, l0, l3, l4, l5, l6, l7, l8⟩
     refine Qdm (fun e2 H2 => ∃ (k2 : Nat) (jump on : Int) (nfl : Bool) (next : List Int), next.length ≤ 2 ∧ k1 < k2 ∧ k2 ≤ k1 + 50 ∧ Kn H H2 [(R.l, R.o k2)] (([(x8, .st [.sl true 2 [], ic, .int .i64 jump, .int .i64 on, .sl nfl 1 (Qe next)])] ++ (([(x4, .st [.int .i64 0, .int .i64 0, .sl true 5 []]), (x5, .st [.int .i64 p, .int .i64 rg, bc])] ++ bs.flatMap UBlk.lg) ++ bl)) ++ il) ∧ EnvA R cc x4 x5 x8 n b e2) ?_ ?_
     ·intro Q hn _ _
      have hx8 := kn.l 0 rfl
      refine Qa ?_
      simp only [go_sem, hx8, l0, l3, l4, l5, l6, l7, l8, hicow, reduceIte, reduceEqDiff, reduceAdd, reduceLeDiff, reduceLT, reduceCtorEq]
      refine Qc ?_
      refine Qa ?_
      simp only [go_sem, reduceIte, reduceEqDiff, reduceAdd, reduceLeDiff, reduceLT, reduceCtorEq]
      refine Qd rfl ?_ ?_
      ·intro hc
       refine Qa ?_
       simp only [go_sem, hx8, hicow, reduceIte, reduceEqDiff, reduceAdd, reduceLeDiff, reduceLT, reduceCtorEq]
       intro H18 h18
       have kn := kn.stL 0 rfl h18
       refine Qq ?_
       simp only [go_sem, reduceIte, reduceEqDiff, reduceAdd, reduceLeDiff, reduceLT, reduceCtorEq]
       refine Qa23 (kn.e 0 rfl) (by omega) (by omega) (by omega) fun v1 H19 k4 hk7 hk8 hu => ?_
       have kn := kn.callE 0 rfl hu (R.o_ne _)
       have hx8 := kn.l 0 rfl
       simp only [go_sem, Q17, hx8, hicow, reduceIte, reduceEqDiff, reduceAdd, reduceLeDiff, reduceLT, reduceCtorEq]
       intro H20 h20
       have kn := kn.stL 0 rfl h20
       exact hn _ _ ⟨k4, jump, 0, true, [v1], by simp, by omega, by omega, kn, rfl, rfl, rfl, rfl, rfl, rfl, rfl⟩
      ·intro hc
       refine Qa ?_
       simp only [go_sem, reduceIte, reduceEqDiff, reduceAdd, reduceLeDiff, reduceLT, reduceCtorEq]
       refine Qd rfl ?_ ?_
       ·intro hc
        refine Qq ?_
        simp only [go_sem, reduceIte, reduceEqDiff, reduceAdd, reduceLeDiff, reduceLT, reduceCtorEq]
        refine Qa23 (kn.e 0 rfl) (by omega) (by omega) (by omega) fun v1 H19 k4 hk7 hk8 hu => ?_
        have kn := kn.callE 0 rfl hu (R.o_ne _)
        simp only [go_sem, Q19, reduceIte, reduceEqDiff, reduceAdd, reduceLeDiff, reduceLT, reduceCtorEq]
        refine Qa23 (kn.e 0 rfl) (by omega) (by omega) (by omega) fun v2 H20 k5 hk9 hk10 hu => ?_
        have kn := kn.callE 0 rfl hu (R.o_ne _)
        have hx8 := kn.l 0 rfl
        simp only [go_sem, Q18, hx8, hicow, reduceIte, reduceEqDiff, reduceAdd, reduceLeDiff, reduceLT, reduceCtorEq]
        intro H21 h21
        have kn := kn.stL 0 rfl h21
        exact hn _ _ ⟨k5, jump, on, true, [v1, v2], by simp, by omega, by omega, kn, rfl, rfl, rfl, rfl, rfl, rfl, rfl⟩
       ·intro hc
        refine Qf ?_
        exact hn _ _ ⟨k3, jump, on, true, [], by simp, by omega, by omega, kn, rfl, rfl, rfl, rfl, rfl, rfl, rfl⟩
     rintro e3 H18 ⟨k4, jump, on, nfl, next, hnx, hk7, hk8, kn, l0, l3, l4, l5, l6, l7, l8⟩
     have hx8 := kn.l 0 rfl
     have hx5 := kn.l 2 rfl
     refine Qq ?_
     simp only [go_sem, hx8, hx5, l0, l3, l4, l5, l6, l7, l8, hicow, hbow, reduceIte, reduceEqDiff, reduceAdd, reduceLeDiff, reduceLT, reduceCtorEq]
     obtain ⟨o, ho⟩ : ∃ o : UBlk, o = ⟨[], .sl true 2 [], [], ds, ic, il, jump, on, nfl, next⟩ := ⟨_, rfl⟩
     have hor : [C.sl true 2 [], ic, C.int IntKind.i64 jump, C.int IntKind.i64 on, C.sl nfl 1 (Qe next)] = o.row := by rw [ho]; rfl
     have hol : o.lg = il := by rw [ho]; simp [UBlk.lg]
     have hook : o.ok := by rw [ho]; exact ⟨.nil 2, hgi, by simp⟩
     have hosm : o.sm 0 := by rw [ho]; exact ⟨hnx, by show ds.length ≤ _; omega, by simp, fun d hd => by have := hds d hd; omega, by simp⟩
     rw [hor]
     have kn := (kn.perm Qba0).drop
     refine kn.grow (new := [o.row]) hgr (.mk' _ _ _ _) (by intro r hr; simp only [List.mem_singleton] at hr; subst hr; exact o.noOw hook) (by simp only [List.length_map, List.length_cons, List.length_nil, LIM]; omega) fun z H19 kn => ?_
     have kn : Kn H H19 [(R.l, R.o k4)] (([(x4, .st [.int .i64 0, .int .i64 0, .sl true 5 []]), (x5, .st [.int .i64 p, .int .i64 rg, bc])] ++ (bs ++ [o]).flatMap UBlk.lg) ++ [(z, .vec 5 ((bs ++ [o]).map UBlk.row))]) := by
      simpa [List.flatMap_append, List.append_assoc, hol] using kn
     have hx5 := kn.l 1 rfl
     simp only [go_sem, Q2a, hx5, l0, l3, l4, l5, l6, l7, hbow, reduceIte, reduceEqDiff, reduceAdd, reduceLeDiff, reduceLT, reduceCtorEq]
     intro H20 h20
     have kn := kn.stL 1 rfl h20
     refine Qq ?_
     simp only [go_sem, X.next, reduceIte, reduceEqDiff, reduceAdd, reduceLeDiff, reduceLT, reduceCtorEq]
     refine ⟨Qo (by omega) (by omega), n - (b + 1), by omega, b + 1, k4, bs ++ [o], _, _, rfl, by omega, by simp [hbs], by omega, by omega, fun o' ho' => ?_, .mk _ _ _ (by simp), kn, rfl⟩
     rcases List.mem_append.1 ho' with h | h
     ·exact hok o' h
     ·simp only [List.mem_singleton] at h; subst h; exact ⟨hook, hosm⟩
  ·intro hc1
   have hbn : b = n := by have : ¬ b < n := (by simpa using hc1); omega
   have hx4 := kn.l 0 rfl
   have hx5 := kn.l 1 rfl
   refine Qt ?_
   simp only [go_sem, X.next]
   refine Qa ?_
   simp only [go_sem, hx5, hx4, hbow, reduceIte, reduceEqDiff, reduceAdd, reduceLeDiff, reduceLT, reduceCtorEq]
   intro H9 h9
   have kn := kn.stL 0 rfl h9
   have hx4 := kn.l 0 rfl
   refine Qj ?_
   simp only [go_sem, Qz, Qac, Qax4, reduceIte, List.mem_singleton, forall_eq, RS.op, hx4, hbow, reduceIte, reduceEqDiff, reduceAdd, reduceLeDiff, reduceLT, reduceCtorEq]
   obtain ⟨o, ho⟩ : ∃ o : UCode, o = ⟨p, rg, bs, bc, bl⟩ := ⟨_, rfl⟩
   have hook : o.ok := by rw [ho]; exact ⟨hgr, fun b hb => (hok b hb).1, hp.1, hp.2⟩
   have hosm : o.sm 0 := by rw [ho]; exact ⟨by show 0 < bs.length; omega, by show bs.length ≤ _; omega, fun b hb => (hok b hb).2⟩
   have kn : Kn H H9 [(R.l, R.o k1)] ([(x4, .st [.int .i64 p, .int .i64 rg, bc]), (x5, .st [.int .i64 p, .int .i64 rg, bc])] ++ o.lg) := by
    rw [ho]; simpa [UCode.lg, List.append_assoc] using kn
   refine ⟨unx H o.lg, .ag o.row, H9.frz (unx H o.lg), ?_, Qdq _ _, hK o _ k1 hk1 (by omega) kn.finK hook hosm⟩
   rw [ho]
   exact FrzL.ag (.cons (Qi rfl) (.cons (Qi rfl) (.cons (.same _ hbow) .nil)))
end Go.AE.Y

namespace Go.AE.Y
open Go.Proofs.Tryz
variable {H : Heap} {K : V → Heap → Prop}
end Go.AE.Y
namespace Go.AE
open Go.AE.Y
open Go.Proofs.Tryz
variable {H : Heap} {K : V → Heap → Prop}
theorem Gr.slc {H0 H : Heap} {E B Lg : List (Nat × Obj)} {sz : Nat} {rows : List (List C)} {c : C} (h : Gr Lg sz rows c) (kn : Kn H0 H E (B ++ Lg)) : Slc H sz rows c := by
 obtain ⟨h1, h2⟩ := h.get kn
 exact ⟨h1, h.elemSz, h2, h.lenC⟩
end Go.AE
namespace Go.AE.Y
open Go.Proofs.Tryz
variable {H : Heap} {K : V → Heap → Prop}
end Go.AE.Y
namespace Go.AE
open Go.AE.Y
open Go.Proofs.Tryz
variable {H : Heap} {K : V → Heap → Prop}
theorem Gr.ne {H0 H : Heap} {E B Lg : List (Nat × Obj)} {sz : Nat} {rows : List (List C)} {c : C} {r : Nat} {o : Obj} (h : Gr Lg sz rows c) (kn : Kn H0 H E (B ++ Lg)) (hr : (r, o) ∈ E) : ∀ l a d n, c = .vsl l a d n → l ≠ r := by
 intro l a d n hc hh
 rcases h with ⟨h1, _⟩ | ⟨y, h1, h2⟩
 ·rw [h1] at hc; simp at hc
 ·rw [h1] at hc
  have hy : y = l := by injection hc
  have := kn.loc (y, .vec sz rows) (by rw [h2]; simp)
  exact kn.ext (r, o) hr (by rw [← hh, ← hy]; exact this)
end Go.AE
namespace Go.AE.Y
open Go.Proofs.Tryz
variable {H : Heap} {K : V → Heap → Prop}
end Go.AE.Y
namespace Go.AE
open Go.AE.Y
open Go.Proofs.Tryz
variable {H : Heap} {K : V → Heap → Prop}
theorem Gr.slcM {H0 H : Heap} {E L Lg : List (Nat × Obj)} {sz : Nat} {rows : List (List C)} {c : C} (h : Gr Lg sz rows c) (kn : Kn H0 H E L) (hm : ∀ p ∈ Lg, p ∈ L) : Slc H sz rows c := by
 rcases h with ⟨h1, h2, h3⟩ | ⟨y, h1, h2⟩
 ·rw [h1, h2]; exact .mk' _ _ _ _
 ·have hy : H y = .vec sz rows := (kn.get (y, .vec sz rows) (List.mem_append_right _ (hm _ (by rw [h2]; simp)))).1
  rw [h1]; exact ⟨by simp [Go.AE.okSl, hy], rfl, by simp [Go.AE.rowsOf, hy], rfl⟩
end Go.AE
namespace Go.AE.Y
open Go.Proofs.Tryz
variable {H : Heap} {K : V → Heap → Prop}
theorem Qbbu {H0 H : Heap} {B cl : List (Nat × Obj)} {R : Rdr} {o : Obj} {us : List UCode} {cc : C} (hg : Gr cl 3 (us.map UCode.row) cc) (kn : Kn H0 H [(R.l, o)] (B ++ cl)) (hu : ∀ u ∈ us, u.ok) : CRd H R cc (us.map UCode.row) := by
 refine ⟨hg.slc kn, hg.isOw, hg.ne kn (o := o) (by simp), fun i hi => ?_⟩
 rw [List.length_map] at hi
 refine ⟨us[i].params, .int .i64 us[i].regs, us[i].bc, by simp [List.getD_eq_getElem?_getD, hi, UCode.row], (hu _ (List.getElem_mem hi)).p0, (hu _ (List.getElem_mem hi)).p1⟩
set_option maxHeartbeats 4000000 in
theorem Qaxv {R : Rdr} {k : Nat} (hH : H R.l = R.o k) (hk : k + 10000 ≤ 2^40)
  (hK : ∀ (cs : List CodeD) (H' : Heap) (k' : Nat), k < k' → k' ≤ k + 10000 → Upd H H' [(R.l, R.o k')] → 0 < cs.length → cs.length ≤ 3 → (∀ c ∈ cs, c.sm) → K (.ag [.sl false 3 (Qm cs)]) H') :
  Qp prog Qv1 [.c (.ptr R.l 0)] H K := by
 refine Q0 ?_
 refine Qb Qat Qa7k ?_
 refine Qa ?_
 simp only [go_sem, reduceIte, reduceEqDiff, reduceAdd, reduceLeDiff, reduceLT, reduceCtorEq]
 intro x2 hx2 H1 h1
 have kn := (Kn.start1 hH (R.o_ne k)).al hx2 h1
 refine Qa ?_
 simp only [go_sem, reduceIte, reduceEqDiff, reduceAdd, reduceLeDiff, reduceLT, reduceCtorEq]
 intro x3 hx3 H2 h2
 have kn := kn.al hx3 h2
 have hx32 := kn.l 1 rfl
 simp only [go_sem, Qaav, hx32, reduceIte, reduceEqDiff, reduceAdd, reduceLeDiff, reduceLT, reduceCtorEq]
 intro H3 h3
 have kn := kn.stL 1 rfl h3
 refine Q4 ?_
 refine Qa ?_
 simp only [go_sem, reduceIte, reduceEqDiff, reduceAdd, reduceLeDiff, reduceLT, reduceCtorEq]
 refine Qi6 (ns := [1, 2, 1, 3]) (kn.e 0 rfl) (by omega) (by simp) fun i0 H4 hi0 hu => ?_
 have kn := kn.callE 0 rfl hu (R.o_ne _)
 simp only [go_sem, Qaaw, reduceIte, reduceEqDiff, reduceAdd, reduceLeDiff, reduceLT, reduceCtorEq]
 obtain ⟨i, rfl, hi1, hi3⟩ : ∃ i : Nat, i0 = i ∧ 1 ≤ i ∧ i ≤ 3 := ⟨i0.toNat, by simp at hi0; omega⟩
 refine Qh (Qc (Qu (fun m e1 H1 => ∃ (t k1 : Nat) (us : List UCode) (cc : C) (cl : List (Nat × Obj)), m = t ∧ t + us.length = i ∧ k < k1 ∧ k1 ≤ k + 1 + 1000 * us.length ∧ (∀ u ∈ us, u.ok ∧ u.sm 0) ∧ Gr cl 3 (us.map UCode.row) cc ∧
  Kn H H1 [(R.l, R.o k1)] (([(x2, .st [.sl true 3 []]), (x3, .st [cc])] ++ us.flatMap UCode.lg) ++ cl) ∧
  e1 = [(0, .c (.ptr R.l 0)), (2, .c (.ptr x2 0)), (3, .c (.ptr x3 0)), (4, .c (.int .i64 t))]) i ?_ ?_))
 ·exact ⟨i, k + 1, [], _, [], rfl, rfl, by omega, by simp, by simp, .nil 3, by simpa using kn, rfl⟩
 ·rintro m e1 H5 ⟨t, k1, us, cc, cl, hm, ht, hk1, hk2, hok, hgr, kn, rfl⟩
  have hcow := hgr.isOw
  have hx3 := kn.l 1 rfl
  refine Q4 ?_
  refine Qa ?_
  simp only [go_sem, reduceIte, reduceEqDiff, reduceAdd, reduceLeDiff, reduceLT, reduceCtorEq]
  refine Qh (Qd rfl ?_ ?_)
  ·intro hc
   have ht0 : 0 < t := by simpa using hc
   refine Qf ?_
   simp only [go_sem]
   refine Qh (Qc (Qbw ?_))
   simp only [go_sem, hx3, hcow, reduceIte, reduceEqDiff, reduceAdd, reduceLeDiff, reduceLT, reduceCtorEq]
   refine Qa6y (kn.e 0 rfl) (by omega) (Qbbu hgr kn fun u hu => (hok u hu).1) fun o H6 k2 hk3 hk4 kn2 hoo hos => ?_
   have kn := kn.compE 0 rfl kn2
   have hx3 := kn.l 1 rfl
   simp only [go_sem, Qaay, hx3, hcow, o.len3, reduceIte, reduceEqDiff, reduceAdd, reduceLeDiff, reduceLT, reduceCtorEq]
   have kn := kn.perm Qang
   refine kn.grow (new := [o.row]) hgr (.mk' _ _ _ _) (by intro r hr; simp only [List.mem_singleton] at hr; subst hr; exact o.noOw hoo) (by simp only [List.length_map, List.length_cons, List.length_nil, LIM]; omega) fun z H7 kn => ?_
   have kn : Kn H H7 [(R.l, R.o k2)] (([(x2, .st [.sl true 3 []]), (x3, .st [cc])] ++ (us ++ [o]).flatMap UCode.lg) ++ [(z, .vec 3 ((us ++ [o]).map UCode.row))]) := by
    simpa [List.flatMap_append, List.append_assoc] using kn
   have hx3 := kn.l 1 rfl
   simp only [go_sem, Qaax, hx3, reduceIte, reduceEqDiff, reduceAdd, reduceLeDiff, reduceLT, reduceCtorEq]
   intro H8 h8
   have kn := kn.stL 1 rfl h8
   refine Qq ?_
   simp only [go_sem, X.next, reduceIte, reduceEqDiff, reduceAdd, reduceLeDiff, reduceLT, reduceCtorEq]
   refine ⟨Qo (by omega) (by omega), t - 1, by omega, t - 1, k2, us ++ [o], _, _, rfl, by simp; omega, by omega, by simp; omega, fun o' ho' => ?_, .mk _ _ _ (by simp), kn, ?_⟩
   ·rcases List.mem_append.1 ho' with h | h
    ·exact hok o' h
    ·simp only [List.mem_singleton] at h; subst h; exact ⟨hoo, hos⟩
   ·have : (t : Int) - 1 = ((t - 1 : Nat) : Int) := by omega
    rw [this]
  ·intro hc
   have ht0 : t = 0 := by have : ¬ 0 < t := (by simpa using hc); omega
   refine Qt ?_
   simp only [go_sem, X.next]
   refine Q4 ?_
   refine Qa ?_
   simp only [go_sem, reduceIte, reduceEqDiff, reduceAdd, reduceLeDiff, reduceLT, reduceCtorEq]
   refine Qi6 (ns := [0, 0, 1, 3]) (kn.e 0 rfl) (by omega) (by simp) fun j0 H6 hj0 hu => ?_
   have kn := kn.callE 0 rfl hu (R.o_ne _)
   simp only [go_sem, Qaaz, reduceIte, reduceEqDiff, reduceAdd, reduceLeDiff, reduceLT, reduceCtorEq]
   obtain ⟨j, rfl, hj3⟩ : ∃ j : Nat, j0 = j ∧ j ≤ 3 := ⟨j0.toNat, by simp at hj0; omega⟩
   have hcl : 0 < us.length := by omega
   have hcl3 : us.length ≤ 3 := by omega
   refine Qh (Qc (Qu (fun m e1 H1 => ∃ (t k2 N : Nat) (us : List UCode), m = t ∧ t + N = j ∧ us.length = i ∧ k < k2 ∧ k2 ≤ k1 + 1 + 200 * N ∧ (∀ u ∈ us, u.ok ∧ u.sm N) ∧ Gr cl 3 (us.map UCode.row) cc ∧
    Kn H H1 [(R.l, R.o k2)] (([(x2, .st [.sl true 3 []]), (x3, .st [cc])] ++ us.flatMap UCode.lg) ++ cl) ∧
    e1 = [(0, .c (.ptr R.l 0)), (2, .c (.ptr x2 0)), (3, .c (.ptr x3 0)), (5, .c (.int .i64 t))]) j ?_ ?_))
   ·exact ⟨j, k1 + 1, 0, us, rfl, rfl, by omega, by omega, by omega, hok, hgr, kn, rfl⟩
   ·rintro m e1 H7 ⟨t, k2, N, us, hm, ht, hui, hk3, hk4, hok, hgr, kn, rfl⟩
    have hx3 := kn.l 1 rfl
    refine Q4 ?_
    refine Qa ?_
    simp only [go_sem, reduceIte, reduceEqDiff, reduceAdd, reduceLeDiff, reduceLT, reduceCtorEq]
    refine Qh (Qd rfl ?_ ?_)
    ·intro hc
     have ht0 : 0 < t := by simpa using hc
     refine Qf ?_
     simp only [go_sem]
     have hmem : ∀ p ∈ cl, p ∈ (([(x2, .st [.sl true 3 []]), (x3, .st [cc])] ++ us.flatMap UCode.lg) ++ cl) := fun p hp => by simp [hp]
     refine Qdm (fun e2 H2 => ∃ (k3 : Nat) (us : List UCode), us.length = i ∧ k < k3 ∧ k3 ≤ k2 + 200 ∧ (∀ u ∈ us, u.ok ∧ u.sm (N + 1)) ∧ Gr cl 3 (us.map UCode.row) cc ∧
      Kn H H2 [(R.l, R.o k3)] (([(x2, .st [.sl true 3 []]), (x3, .st [cc])] ++ us.flatMap UCode.lg) ++ cl) ∧ lk 0 e2 = .c (.ptr R.l 0) ∧ lk 2 e2 = .c (.ptr x2 0) ∧ lk 3 e2 = .c (.ptr x3 0) ∧ lk 5 e2 = .c (.int .i64 t)) ?_ ?_
     ·intro Q hn _ _
      have hs := hgr.slc kn
      have hsok := eq_true hs.ok
      have hlen := hs.len
      have hsz := hs.sz
      rw [List.length_map] at hlen
      refine Qc ?_
      refine Qan ?_
      simp only [go_sem, hx3, hcow, hsok, hlen, reduceIte, reduceEqDiff, reduceAdd, reduceLeDiff, reduceLT, reduceCtorEq]
      refine Qa7 (kn.e 0 rfl) (by omega) fun v H8 hv hu => ?_
      have kn := kn.callE 0 rfl hu (R.o_ne _)
      rw [if_neg (by omega)] at hv
      obtain ⟨ci, rfl⟩ := Int.eq_ofNat_of_zero_le hv.1
      have hci : ci < us.length := by omega
      have hx3 := kn.l 1 rfl
      have hs := hgr.slc kn
      have hsok := eq_true hs.ok
      simp only [go_sem, Qaa0, hx3, hcow, hsok, hlen, hsz, hci, reduceIte, reduceEqDiff, reduceAdd, reduceLeDiff, reduceLT, reduceCtorEq]
      obtain ⟨u, hu⟩ : ∃ u, us[ci] = u := ⟨_, rfl⟩
      obtain ⟨huok, husm⟩ := hok _ (List.getElem_mem hci)
      rw [hu] at huok husm
      have hrow : (us.map UCode.row).getD ci [] = [.int .i64 u.params, .int .i64 u.regs, u.bc] := by rw [← hu]; simp [List.getD_eq_getElem?_getD, hci, UCode.row]
      have hub0 := husm.b0
      have hub1 := husm.b
      obtain ⟨yb, hbc, hbl⟩ := UCode.bvec huok hub0
      have hblow := huok.b.isOw
      have hblen := huok.b.lenC
      rw [List.length_map] at hblen
      have hrws := hs.rows
      have hmemb : ∀ p ∈ u.bl, p ∈ (([(x2, .st [.sl true 3 []]), (x3, .st [cc])] ++ us.flatMap UCode.lg) ++ cl) := fun p hp => by
       have : p ∈ us.flatMap UCode.lg := List.mem_flatMap.2 ⟨u, by rw [← hu]; exact List.getElem_mem hci, List.mem_append_right _ hp⟩
       simp [this]
      have hbok := eq_true (huok.b.slcM kn hmemb).ok
      refine Qa ?_
      simp only [go_sem, hx3, hcow, hsok, hlen, hsz, hci, hrws, hrow, hblow, hblen, hbok, reduceIte, reduceEqDiff, reduceAdd, reduceLeDiff, reduceLT, reduceCtorEq]
      intro _
      refine Qa7 (kn.e 0 rfl) (by omega) fun v H9 hv hu9 => ?_
      have kn := kn.callE 0 rfl hu9 (R.o_ne _)
      rw [if_neg (by omega)] at hv
      obtain ⟨bi, rfl⟩ := Int.eq_ofNat_of_zero_le hv.1
      have hbi : bi < u.blocks.length := by omega
      have hsok := eq_true (hgr.slcM kn hmem).ok
      have hrws := (hgr.slcM kn hmem).rows
      simp only [go_sem, Qaa1, reduceIte, reduceEqDiff, reduceAdd, reduceLeDiff, reduceLT, reduceCtorEq]
      refine Qa ?_
      simp only [go_sem, hcow, hsok, hlen, hsz, hci, hrws, hrow, hblow, reduceIte, reduceEqDiff, reduceAdd, reduceLeDiff, reduceLT, reduceCtorEq]
      refine Qa7 (kn.e 0 rfl) (by omega) fun to H10 _ hu10 => ?_
      have kn := kn.callE 0 rfl hu10 (R.o_ne _)
      simp only [go_sem, Q2i, reduceIte, reduceEqDiff, reduceAdd, reduceLeDiff, reduceLT, reduceCtorEq]
      intro x8 hx8 H11 h11
      have kn := kn.al hx8 h11
      have kn := kn.perm List.perm_append_comm
      have hx8 := kn.l 0 rfl
      simp only [go_sem, Q2h, hx8, reduceIte, reduceEqDiff, reduceAdd, reduceLeDiff, reduceLT, reduceCtorEq]
      intro H12 h12
      have kn : Kn H H12 [(R.l, R.o (k2 + 1 + 1 + 1))] ([(x8, .st [.int .i64 to, .sl true 1 []])] ++ (([(x2, .st [.sl true 3 []]), (x3, .st [cc])] ++ us.flatMap UCode.lg) ++ cl)) := kn.stL 0 rfl h12
      have hmem2 : ∀ p ∈ cl, p ∈ ([(x8, Obj.st [.int .i64 to, .sl true 1 []])] ++ (([(x2, .st [.sl true 3 []]), (x3, .st [cc])] ++ us.flatMap UCode.lg) ++ cl)) := fun p hp => List.mem_append_right _ (hmem p hp)
      have hsok := eq_true (hgr.slcM kn hmem2).ok
      have hrws := (hgr.slcM kn hmem2).rows
      have hbs := huok.b.slcM kn (fun p hp => List.mem_append_right _ (hmemb p hp))
      refine Q4 ?_
      refine Qa ?_
      simp only [go_sem, hcow, hsok, hlen, hsz, hci, hrws, hrow, hblow, reduceIte, reduceEqDiff, reduceAdd, reduceLeDiff, reduceLT, reduceCtorEq]
      refine Q52 (rows := u.blocks.map UBlk.row) (nx := fun i => (u.blocks.map UBlk.next).getD i []) hbs hblow (fun i hi => ?_) fun H13 hu13 => ?_
      ·rw [List.length_map] at hi
       refine ⟨u.blocks[i].pc, u.blocks[i].ic, .int .i64 u.blocks[i].jump, .int .i64 u.blocks[i].on, u.blocks[i].nfl, ?_⟩
       simp [List.getD_eq_getElem?_getD, hi, UBlk.row]
      have kn := kn.call0 hu13
      obtain ⟨ps, hps⟩ : ∃ ps, Qas (fun i => (u.blocks.map UBlk.next).getD i []) (bi : Int) (u.blocks.map UBlk.row).length = ps := ⟨_, rfl⟩
      have hpsl : ps.length ≤ 160 := by
       have := Qkv (fun i => (u.blocks.map UBlk.next).getD i []) (bi : Int) (u.blocks.map UBlk.row).length
       rw [hps, List.length_map] at this; omega
      rw [hps]
      simp only [go_sem, Q2j, Qg, reduceIte, reduceEqDiff, reduceAdd, reduceLeDiff, reduceLT, reduceCtorEq]
      intro _
      refine Qh (Qc (Qu (fun m e1 H1 => ∃ (q : Nat) (ns : List Int) (ac : C) (al : List (Nat × Obj)), m = ps.length - q ∧ q ≤ ps.length ∧ ns.length = q ∧ Gr al 1 (Qe ns) ac ∧
       Kn H H1 [(R.l, R.o (k2 + 1 + 1 + 1 + q))] (([(x8, .st [.int .i64 to, ac])] ++ (([(x2, .st [.sl true 3 []]), (x3, .st [cc])] ++ us.flatMap UCode.lg) ++ cl)) ++ al) ∧
       e1 = [(0, .c (.ptr R.l 0)), (2, .c (.ptr x2 0)), (3, .c (.ptr x3 0)), (5, .c (.int .i64 t)), (6, .c (cc.ep 3 ci 0)), (7, .c (.int .i64 bi)), (8, .c (.ptr x8 0)), (59, .c (.int .i64 ps.length)), (60, .c (.int .i64 q))]) ps.length ?_ ?_))
      ·exact ⟨0, [], _, [], by omega, by omega, rfl, .nil 1, by simpa using kn, rfl⟩
      ·rintro m2 e1 H14 ⟨q, ns, ac, al, hm2, hq, hns, hga, kn, rfl⟩
       have hacow := hga.isOw
       have hx8 := kn.l 0 rfl
       have hmem3 : ∀ p ∈ cl, p ∈ (([(x8, Obj.st [.int .i64 to, ac])] ++ (([(x2, .st [.sl true 3 []]), (x3, .st [cc])] ++ us.flatMap UCode.lg) ++ cl)) ++ al) := fun p hp => List.mem_append_left _ (List.mem_append_right _ (hmem p hp))
       have hsok := eq_true (hgr.slcM kn hmem3).ok
       have hrws := (hgr.slcM kn hmem3).rows
       refine Qa ?_
       simp only [go_sem, reduceIte, reduceEqDiff, reduceAdd, reduceLeDiff, reduceLT, reduceCtorEq]
       refine Qh (Qd rfl ?_ ?_)
       ·intro hc
        have hlt : q < ps.length := by simpa using hc
        refine Qf ?_
        simp only [go_sem]
        refine Qh (Qc (Qbw ?_))
        simp only [go_sem, hx8, hacow, hcow, hsok, hlen, hsz, hci, hrws, hrow, hblow, reduceIte, reduceEqDiff, reduceAdd, reduceLeDiff, reduceLT, reduceCtorEq]
        refine Qa7 (kn.e 0 rfl) (by omega) fun v H15 _ hu15 => ?_
        have kn := kn.callE 0 rfl hu15 (R.o_ne _)
        have hx8 := kn.l 0 rfl
        simp only [go_sem, Q2l, hx8, hacow, reduceIte, reduceEqDiff, reduceAdd, reduceLeDiff, reduceLT, reduceCtorEq]
        refine kn.grow (new := Qe [v]) hga (.mk' _ _ _ _) (Qx _) (by simp only [Qg, LIM, List.length_cons, List.length_nil]; omega) fun y H16 kn => ?_
        have hx8 := kn.l 0 rfl
        simp only [go_sem, Q2k, hx8, reduceIte, reduceEqDiff, reduceAdd, reduceLeDiff, reduceLT, reduceCtorEq]
        intro H17 h17
        have kn := kn.stL 0 rfl h17
        refine Qq ?_
        simp only [go_sem, X.next, reduceIte, reduceEqDiff, reduceAdd, reduceLeDiff, reduceLT, reduceCtorEq]
        refine ⟨Qo (by omega) (by omega), ps.length - (q + 1), by omega, q + 1, ns ++ [v], _, _, rfl, by omega, by simp [hns], ?_, kn, rfl⟩
        rw [← Qdb]
        exact .mk _ _ _ (by simp [Qdb, Qg])
       ·intro hc
        have hqp : q = ps.length := by have : ¬ q < ps.length := (by simpa using hc); omega
        refine Qt ?_
        simp only [go_sem, X.next]
        refine Qa ?_
        simp only [go_sem, reduceIte, reduceEqDiff, reduceAdd, reduceLeDiff, reduceLT, reduceCtorEq]
        refine Qd rfl ?_ ?_
        ·intro hc
         obtain ⟨blk, hblk⟩ : ∃ blk, u.blocks[bi] = blk := ⟨_, rfl⟩
         have hbok2 := huok.bs _ (List.getElem_mem hbi)
         have hbsm2 := husm.bs _ (List.getElem_mem hbi)
         rw [hblk] at hbok2 hbsm2
         have hbp := hbsm2.p
         have hbr : (u.blocks.map UBlk.row).getD bi [] = [blk.pc, blk.ic, .int .i64 blk.jump, .int .i64 blk.on, .sl blk.nfl 1 (Qe blk.next)] := by rw [← hblk]; simp [List.getD_eq_getElem?_getD, hbi, UBlk.row]
         have hpcow := hbok2.p.isOw
         have hbl5 : (u.blocks.map UBlk.row).length = u.blocks.length := by simp
         have kn : Kn H H14 [(R.l, R.o (k2 + 1 + 1 + 1 + q))] (([(yb, .vec 5 (u.blocks.map UBlk.row))] ++ ([(x8, .st [.int .i64 to, ac])] ++ ([(x2, .st [.sl true 3 []]), (x3, .st [cc])] ++ (blk.core ++ (al ++ (Qamg us ci bi hci ++ cl)))))) ++ blk.pl) := kn.perm (Qr fun f hf h0 hc1 hp => by
          have h1 := hp _ _ (Qa8z us ci bi hci (by rw [hu]; exact hbi))
          subst hu
          rw [hblk, hbl] at h1
          simp only [hf] at h1 ⊢
          omega)
         have hyb := kn.l 0 rfl
         have hx8 := kn.l 1 rfl
         have hmem4 : ∀ p ∈ cl, p ∈ (([(yb, Obj.vec 5 (u.blocks.map UBlk.row))] ++ ([(x8, Obj.st [.int .i64 to, ac])] ++ ([(x2, Obj.st [.sl true 3 []]), (x3, Obj.st [cc])] ++ (blk.core ++ (al ++ (Qamg us ci bi hci ++ cl)))))) ++ blk.pl) := fun p hp => by simp [hp]
         have hsok := eq_true (hgr.slcM kn hmem4).ok
         have hrws := (hgr.slcM kn hmem4).rows
         obtain ⟨ph, hph⟩ : ∃ ph : UPhi, ph = ⟨to, ns, ac, al⟩ := ⟨_, rfl⟩
         have hphr : [C.int IntKind.i64 to, ac] = ph.row := by rw [hph]; rfl
         have hphl : ph.al = al := by rw [hph]
         have hphg : Gr ph.al 1 (Qe ph.ns) ph.ac := by rw [hph]; exact hga
         rw [hbc] at hrow hblow hblen
         have hgp := hbok2.p
         have htk : List.take u.blocks.length (u.blocks.map UBlk.row) = u.blocks.map UBlk.row := List.take_of_length_le (by simp)
         refine Qbw ?_
         simp only [go_sem, hx8, hacow, hcow, hsok, hlen, hsz, hci, hrws, hrow, hyb, hbi, hbl5, htk, hbr, hpcow, List.drop_zero, List.take_length, Nat.zero_add, reduceIte, reduceEqDiff, reduceAdd, reduceLeDiff, reduceLT, reduceCtorEq]
         rw [hphr]
         refine kn.grow (new := [ph.row]) hgp (.mk' _ _ _ _) (by intro r hr; simp only [List.mem_singleton] at hr; subst hr; exact ph.noOw hphg) (by simp only [List.length_map, List.length_cons, List.length_nil, LIM]; omega) fun z H15 kn => ?_
         have kn : Kn H H15 [(R.l, R.o (k2 + 1 + 1 + 1 + q))] ([(yb, .vec 5 (u.blocks.map UBlk.row))] ++ (([(x8, .st [.int .i64 to, ac])] ++ ([(x2, .st [.sl true 3 []]), (x3, .st [cc])] ++ (blk.core ++ (al ++ (Qamg us ci bi hci ++ cl))))) ++ [(z, .vec 2 ((blk.phis ++ [ph]).map UPhi.row))])) := by
          simpa [List.append_assoc] using kn
         have hyb := kn.l 0 rfl
         have hmem5 : ∀ p ∈ cl, p ∈ ([(yb, Obj.vec 5 (u.blocks.map UBlk.row))] ++ (([(x8, Obj.st [.int .i64 to, ac])] ++ ([(x2, Obj.st [.sl true 3 []]), (x3, Obj.st [cc])] ++ (blk.core ++ (al ++ (Qamg us ci bi hci ++ cl))))) ++ [(z, .vec 2 ((blk.phis ++ [ph]).map UPhi.row))])) := fun p hp => by simp [hp]
         have hsok := eq_true (hgr.slcM kn hmem5).ok
         have hrws := (hgr.slcM kn hmem5).rows
         simp only [go_sem, Q2m, hcow, hsok, hlen, hsz, hci, hrws, hrow, hyb, hbi, hbl5, htk, hbr, hpcow, List.drop_zero, Nat.zero_add, reduceIte, reduceEqDiff, reduceAdd, reduceLeDiff, reduceLT, reduceCtorEq]
         intro H16 h16
         obtain ⟨b', hb'⟩ : ∃ b' : UBlk, b' = { blk with phis := blk.phis ++ [ph], pc := .vsl z 2 0 ((blk.phis.map UPhi.row).length + 1), pl := [(z, .vec 2 ((blk.phis ++ [ph]).map UPhi.row))] } := ⟨_, rfl⟩
         have hbr' : [C.vsl z 2 0 ((blk.phis.map UPhi.row).length + 1), blk.ic, C.int IntKind.i64 blk.jump, C.int IntKind.i64 blk.on, C.sl blk.nfl 1 (Qe blk.next)] = b'.row := by rw [hb']; rfl
         have hbset : (u.blocks.map UBlk.row).set bi b'.row = (u.blocks.set bi b').map UBlk.row := by rw [List.map_set]
         rw [hbr', hbset] at h16
         have kn := kn.stL 0 rfl h16
         have hbok' : b'.ok := by
          rw [hb']
          refine ⟨.mk _ _ _ (by simp), hbok2.i, fun p hp => ?_⟩
          rcases List.mem_append.1 hp with h | h
          ·exact hbok2.a p h
          ·simp only [List.mem_singleton] at h; subst h; exact hphg
         have hbsm' : b'.sm (N + 1) := by
          rw [hb']
          refine ⟨hbsm2.n, hbsm2.i, by simp; omega, hbsm2.ia, fun p hp => ?_⟩
          rcases List.mem_append.1 hp with h | h
          ·exact hbsm2.pa p h
          ·simp only [List.mem_singleton] at h; subst h; rw [hph]; show ns.length ≤ 1000; omega
         obtain ⟨u', hu'⟩ : ∃ u', u' = u.put bi b' [(yb, .vec 5 ((u.blocks.set bi b').map UBlk.row))] := ⟨_, rfl⟩
         have huok' : u'.ok := by rw [hu']; exact UCode.put_ok huok hbok' hbl
         have husm' : u'.sm (N + 1) := by rw [hu']; exact UCode.put_sm husm hbsm'
         have hkn : Kn H H16 [(R.l, R.o (k2 + 1 + 1 + 1 + q))] ((([(x2, .st [.sl true 3 []]), (x3, .st [cc])] ++ (us.set ci u').flatMap UCode.lg) ++ cl) ++ [(x8, .st [.int .i64 to, ac])]) := kn.perm (Qr fun f hf h0 hc1 hp => by
          have h1 := hp _ _ (Qbbh us ci bi hci (by rw [hu]; exact hbi) b' [(yb, .vec 5 ((u.blocks.set bi b').map UBlk.row))])
          rw [hu, ← hu'] at h1
          have h2 : b'.core = blk.core ++ al := by rw [hb', UBlk.core_snoc, hphl]
          have h3 : b'.pl = [(z, .vec 2 ((blk.phis ++ [ph]).map UPhi.row))] := by rw [hb']
          rw [h2, h3] at h1
          simp only [List.cons_append, List.nil_append, List.set_cons_zero, hf, hc1 _ (_ :: _), hc1 _ (_ ++ _)] at h1 ⊢
          omega)
         refine hn _ _ ⟨k2 + 1 + 1 + 1 + q, us.set ci u', by simpa using hui, by omega, by omega, fun v hv => ?_, ?_, hkn.drop, rfl, rfl, rfl, rfl⟩
         ·rcases List.mem_or_eq_of_mem_set hv with hv | rfl
          ·exact ⟨(hok v hv).1, (hok v hv).2.mono (by omega)⟩
          ·exact ⟨huok', husm'⟩
         ·rw [Qbbi us ci hci u' (by rw [hu', UCode.put_row, hu])]; exact hgr
        ·intro hc
         refine Qf ?_
         simp only [go_sem]
         refine hn _ _ ⟨k2 + 1 + 1 + 1 + q, us, hui, by omega, by omega, fun u hu => ⟨(hok u hu).1, (hok u hu).2.mono (by omega)⟩, hgr, ?_, rfl, rfl, rfl, rfl⟩
         have kn := kn.drop
         exact (kn.perm List.perm_append_comm).drop
     rintro e2 H8 ⟨k3, us, hui, hk5, hk6, hok, hgr, kn, l0, l2, l3, l5⟩
     refine Qq ?_
     simp only [go_sem, X.next, l0, l2, l3, l5, reduceIte, reduceEqDiff, reduceAdd, reduceLeDiff, reduceLT, reduceCtorEq]
     refine ⟨Qo (by omega) (by omega), t - 1, by omega, t - 1, k3, N + 1, us, rfl, by omega, hui, hk5, by omega, hok, hgr, kn, ?_⟩
     have : (t : Int) - 1 = ((t - 1 : Nat) : Int) := by omega
     rw [this]
    ·intro hc
     refine Qt ?_
     simp only [go_sem, X.next]
     have hx2 := kn.l 0 rfl
     refine Qa ?_
     simp only [go_sem, hx2, hx3, hcow, reduceIte, reduceEqDiff, reduceAdd, reduceLeDiff, reduceLT, reduceCtorEq]
     intro H8 h8
     have kn := kn.stL 0 rfl h8
     have hx2 := kn.l 0 rfl
     refine Qj ?_
     simp only [go_sem, Qz, Qac, Qax7, reduceIte, List.mem_singleton, forall_eq, RS.op, hx2, hcow, reduceIte, reduceEqDiff, reduceAdd, reduceLeDiff, reduceLT, reduceCtorEq]
     have hheld : Held H8 (un H) (us.flatMap UCode.lg ++ cl) := fun p hp => by
      have hp2 : p ∈ (([(x2, Obj.st [cc]), (x3, Obj.st [cc])] ++ us.flatMap UCode.lg) ++ cl) := by
       rcases List.mem_append.1 hp with h | h
       ·simp [h]
       ·simp [h]
      exact ⟨(kn.get p (List.mem_append_right _ hp2)).1, Qlk (kn.loc p hp2)⟩
     obtain ⟨cs, hf, hcn, hcs⟩ := UCodes.frz (N := N) (by omega) hgr hok hheld
     exact ⟨_, FrzL.ag (.cons hf .nil), hK cs _ k2 hk3 (by omega) kn.fin (by omega) (by omega) hcs⟩
end Go.AE.Y

namespace Go.AE.Y
open Go.Proofs.Tryz
variable {H : Heap} {K : V → Heap → Prop}
end Go.AE.Y
namespace Go.AE
open Go.AE.Y
open Go.Proofs.Tryz
variable {H : Heap} {K : V → Heap → Prop}
theorem Kn.lm {H0 H : Heap} {E L : List (Nat × Obj)} {x : Nat} {o : Obj} (kn : Kn H0 H E L) (h : (x, o) ∈ L) : H x = o := (kn.get (x, o) (List.mem_append_right _ h)).1
end Go.AE
namespace Go.AE.Y
open Go.Proofs.Tryz
variable {H : Heap} {K : V → Heap → Prop}
set_option maxHeartbeats 4000000 in
theorem Qa6x {R : Rdr} {k : Nat} (hH : H R.l = R.o k) (hk : k + 20000 ≤ 2^40)
  (hK : ∀ (cs : List CodeD) (H' : Heap) (k' : Nat), k < k' → k' ≤ k + 20000 → Upd H H' [(R.l, R.o k')] → 0 < cs.length → cs.length ≤ 3 → (∀ c ∈ cs, c.gd) → K (.ag [.sl false 3 (Qm cs)]) H') :
  Qp prog Q5p [.c (.ptr R.l 0)] H K := by
 refine Q0 ?_
 refine Qb Qat Qa7f ?_
 refine Qa ?_
 simp only [go_sem, reduceIte, reduceEqDiff, reduceAdd, reduceLeDiff, reduceLT, reduceCtorEq]
 intro x2 hx2 H1 h1
 have kn := (Kn.start1 hH (R.o_ne k)).al hx2 h1
 refine Qa ?_
 simp only [go_sem, reduceIte, reduceEqDiff, reduceAdd, reduceLeDiff, reduceLT, reduceCtorEq]
 refine Qaxv (kn.e 0 rfl) (by omega) fun cs H2 k1 hk1 hk2 hu hcs0 hcs3 hsm => ?_
 have kn := kn.callE 0 rfl hu (R.o_ne _)
 simp only [go_sem, Q9x, reduceIte, reduceEqDiff, reduceAdd, reduceLeDiff, reduceLT, reduceCtorEq]
 refine Qamw hsm (by omega) fun us cc cl H3 k2 hgr hok hul => ?_
 have kn := kn.comp0 k2
 have hcow := hgr.isOw
 simp only [go_sem, Q9w, hcow, reduceIte, reduceEqDiff, reduceAdd, reduceLeDiff, reduceLT, reduceCtorEq]
 intro x3 hx3 H4 h4
 have kn := kn.al hx3 h4
 have kn := kn.perm List.perm_append_comm
 have hx3 := kn.l 0 rfl
 simp only [go_sem, Q9v, hx3, hcow, reduceIte, reduceEqDiff, reduceAdd, reduceLeDiff, reduceLT, reduceCtorEq]
 intro H5 h5
 have kn := kn.stL 0 rfl h5
 have kn : Kn H H5 [(R.l, R.o k1)] (([(x2, .st [.sl true 3 []]), (x3, .st [cc])] ++ us.flatMap OCode.lg) ++ cl) := kn.perm (Qr fun f hf h0 hc1 hp => by
  simp only [List.cons_append, List.nil_append, List.set_cons_zero, hf, hc1 _ (_ :: _), hc1 _ (_ ++ _), hc1 _ (List.flatMap _ _)]
  omega)
 have hx3 := kn.l 1 rfl
 have hs := hgr.slc kn
 have hsok := eq_true hs.ok
 have hlen := hs.len
 have hsz := hs.sz
 rw [List.length_map] at hlen
 refine Qan ?_
 simp only [go_sem, hx3, hcow, hsok, hlen, reduceIte, reduceEqDiff, reduceAdd, reduceLeDiff, reduceLT, reduceCtorEq]
 refine Qa7 (kn.e 0 rfl) (by omega) fun v H6 hv hu => ?_
 have kn := kn.callE 0 rfl hu (R.o_ne _)
 rw [if_neg (by omega)] at hv
 obtain ⟨ci, rfl⟩ := Int.eq_ofNat_of_zero_le hv.1
 have hci : ci < us.length := by omega
 have hx3 := kn.l 1 rfl
 have hs := hgr.slc kn
 have hsok := eq_true hs.ok
 have hrws := hs.rows
 simp only [go_sem, Q9y, hx3, hcow, hsok, hlen, hsz, hci, reduceIte, reduceEqDiff, reduceAdd, reduceLeDiff, reduceLT, reduceCtorEq]
 obtain ⟨u, hu⟩ : ∃ u, us[ci] = u := ⟨_, rfl⟩
 obtain ⟨huok, husm⟩ := hok _ (List.getElem_mem hci)
 rw [hu] at huok husm
 have hrow : (us.map OCode.row).getD ci [] = [.int .i64 u.params, .int .i64 u.regs, u.bc] := by rw [← hu]; simp [List.getD_eq_getElem?_getD, hci, OCode.row]
 have hub0 := husm.b0
 have hub1 := husm.b
 obtain ⟨yb, hbc, hbl⟩ := OCode.bvec huok hub0
 have hblow : (C.vsl yb 5 0 u.blocks.length).isOw = false := rfl
 have hblen : lenC (C.vsl yb 5 0 u.blocks.length) = u.blocks.length := rfl
 rw [hbc] at hrow
 have hybm : (yb, Obj.vec 5 (u.blocks.map OBlk.row)) ∈ (([(x2, Obj.st [.sl true 3 []]), (x3, .st [cc])] ++ us.flatMap OCode.lg) ++ cl) := by
  have : (yb, Obj.vec 5 (u.blocks.map OBlk.row)) ∈ us.flatMap OCode.lg := List.mem_flatMap.2 ⟨u, by rw [← hu]; exact List.getElem_mem hci, List.mem_append_right _ (by rw [hbl]; simp)⟩
  simp [this]
 have hyb := kn.lm hybm
 have hbl5 : (u.blocks.map OBlk.row).length = u.blocks.length := by simp
 have htk : List.take u.blocks.length (u.blocks.map OBlk.row) = u.blocks.map OBlk.row := List.take_of_length_le (by simp)
 refine Qan ?_
 simp only [go_sem, hcow, hsok, hlen, hsz, hci, hrws, hrow, hyb, hbl5, Nat.zero_add, Nat.le_refl, reduceIte, reduceEqDiff, reduceAdd, reduceLeDiff, reduceLT, reduceCtorEq]
 refine Qa7 (kn.e 0 rfl) (by omega) fun v H7 hv hu7 => ?_
 have kn := kn.callE 0 rfl hu7 (R.o_ne _)
 rw [if_neg (by omega)] at hv
 obtain ⟨bi, rfl⟩ := Int.eq_ofNat_of_zero_le hv.1
 have hbi : bi < u.blocks.length := by omega
 have hs := hgr.slc kn
 have hsok := eq_true hs.ok
 have hrws := hs.rows
 have hyb := kn.lm hybm
 simp only [go_sem, Q9z, hcow, hsok, hlen, hsz, hci, hrws, hrow, hyb, hbl5, hbi, Nat.zero_add, Nat.le_refl, reduceIte, reduceEqDiff, reduceAdd, reduceLeDiff, reduceLT, reduceCtorEq]
 refine Qan ?_
 simp only [go_sem, hcow, hsok, hlen, hsz, hci, hrws, hrow, hyb, hbl5, hbi, Nat.zero_add, Nat.le_refl, reduceIte, reduceEqDiff, reduceAdd, reduceLeDiff, reduceLT, reduceCtorEq]
 refine Qi6 (ns := [-1, u.regs, u.blocks.length, 0, 1]) (kn.e 0 rfl) (by omega) (by simp) fun bad H8 _ hu8 => ?_
 have kn := kn.callE 0 rfl hu8 (R.o_ne _)
 simp only [go_sem, Q90, reduceIte, reduceEqDiff, reduceAdd, reduceLeDiff, reduceLT, reduceCtorEq]
 refine Q4 ?_
 refine Qa ?_
 simp only [go_sem, reduceIte, reduceEqDiff, reduceAdd, reduceLeDiff, reduceLT, reduceCtorEq]
 refine Qa7 (kn.e 0 rfl) (by omega) fun kind H9 _ hu9 => ?_
 have kn := kn.callE 0 rfl hu9 (R.o_ne _)
 refine Qdm (fun e2 H2 => ∃ (k3 : Nat) (us : List OCode) (cl : List (Nat × Obj)), us.length = cs.length ∧ k < k3 ∧ k3 ≤ k + 20000 ∧ (∀ u ∈ us, u.ok ∧ u.sm 1001) ∧ Gr cl 3 (us.map OCode.row) cc ∧
   Kn H H2 [(R.l, R.o k3)] (([(x2, .st [.sl true 3 []]), (x3, .st [cc])] ++ us.flatMap OCode.lg) ++ cl) ∧ lk 2 e2 = .c (.ptr x2 0) ∧ lk 3 e2 = .c (.ptr x3 0)) ?_ ?_
 ·intro Q hn _ _
  have hull : us.length = cs.length := hul
  have knO := kn
  obtain ⟨blk, hblk⟩ : ∃ blk, u.blocks[bi] = blk := ⟨_, rfl⟩
  have hbok := huok.bs _ (List.getElem_mem hbi)
  have hbsm := husm.bs _ (List.getElem_mem hbi)
  rw [hblk] at hbok hbsm
  have hbr : (u.blocks.map OBlk.row).getD bi [] = [blk.pc, blk.ic, .int .i64 blk.jump, .int .i64 blk.on, .vsl blk.nx.y 1 0 blk.nx.ns.length] := by rw [← hblk]; simp [List.getD_eq_getElem?_getD, hbi, OBlk.row, OInts.c]
  have hpcow := hbok.p.isOw
  have hicow := hbok.i.isOw
  have kn := Qayp kn hci hu hbi hblk hbl
  have hset : ∀ b' : OBlk, (u.blocks.map OBlk.row).set bi b'.row = (u.blocks.set bi b').map OBlk.row := fun b' => (List.map_set).symm
  have hdone : ∀ (b' : OBlk) (H2 : Heap) (k3 : Nat) (e2 : Env), b'.ok → b'.sm 1001 → k < k3 → k3 ≤ k + 20000 → Kn H H2 [(R.l, R.o k3)] ([(yb, .vec 5 ((u.blocks.set bi b').map OBlk.row))] ++ (b'.lg ++ (Qacz us ci bi hci ++ ([(x2, Obj.st [.sl true 3 []]), (x3, .st [cc])] ++ cl)))) →
    lk 2 e2 = .c (.ptr x2 0) → lk 3 e2 = .c (.ptr x3 0) → Q .nrm e2 H2 := by
   intro b' H2 k3 e2 h1 h2 h3 h4 kn l2 l3
   obtain ⟨us', g1, g2, g3, g4⟩ := Qa11 (N := 1000) hci hu hbi hbl hok h1 h2 hgr kn
   exact hn _ _ ⟨k3, us', cl, by omega, h3, h4, g3, g2, g4, l2, l3⟩
  have hsame : ∀ e2 : Env, lk 2 e2 = .c (.ptr x2 0) → lk 3 e2 = .c (.ptr x3 0) → Q .nrm e2 H9 := fun e2 l2 l3 =>
   hn _ _ ⟨_, us, cl, hul, by omega, by omega, fun u hu => ⟨(hok u hu).1, (hok u hu).2.mono (by omega)⟩, hgr, knO, l2, l3⟩
  refine Qc ?_
  refine Qa ?_
  simp only [go_sem, reduceIte, reduceEqDiff, reduceAdd, reduceLeDiff, reduceLT, reduceCtorEq]
  have hsok := eq_true (hgr.slcM kn (fun p hp => by simp [hp])).ok
  have hrws := (hgr.slcM kn (fun p hp => by simp [hp])).rows
  have hyb := kn.l 0 rfl
  refine Qd rfl ?_ ?_
  ·intro hc
   refine Qq ?_
   simp only [go_sem, reduceIte, reduceEqDiff, reduceAdd, reduceLeDiff, reduceLT, reduceCtorEq]
   refine Qa7 (kn.e 0 rfl) (by omega) fun v H10 _ hu10 => ?_
   have kn := kn.callE 0 rfl hu10 (R.o_ne _)
   have hyb := kn.l 0 rfl
   simp only [go_sem, Q91, hyb, hbl5, htk, hbi, hbr, hpcow, hicow, Qbq, List.drop_zero, Nat.zero_add, Nat.le_refl, reduceIte, reduceEqDiff, reduceAdd, reduceLeDiff, reduceLT, reduceCtorEq]
   intro H11 h11
   have hb' : [blk.pc, blk.ic, C.int IntKind.i64 v, C.int IntKind.i64 blk.on, C.vsl blk.nx.y 1 0 blk.nx.ns.length] = ({ blk with jump := v } : OBlk).row := rfl
   rw [hb', hset] at h11
   exact hdone { blk with jump := v } _ _ _ ⟨hbok.p, hbok.i, hbok.a⟩ ⟨hbsm.n, hbsm.i, by have := hbsm.p; show blk.phis.length ≤ _; omega, fun x hx => by have := hbsm.ia x hx; omega⟩ (by omega) (by omega) (kn.stL 0 rfl h11) (by simp [lk]) (by simp [lk])
  intro hc0
  refine Qa ?_
  simp only [go_sem, reduceIte, reduceEqDiff, reduceAdd, reduceLeDiff, reduceLT, reduceCtorEq]
  refine Qd rfl ?_ ?_
  ·intro hc
   have hny : H9 blk.nx.y = .vec 1 (Qe blk.nx.ns) := kn.l 1 rfl
   have htk2 : List.take blk.nx.ns.length (Qe blk.nx.ns) = Qe blk.nx.ns := List.take_of_length_le (by simp [Qg])
   refine Qa ?_
   simp only [go_sem, hyb, hbl5, htk, hbi, hbr, hpcow, hicow, Qbq, List.drop_zero, Nat.zero_add, Nat.le_refl, hny, Qg, reduceIte, reduceEqDiff, reduceAdd, reduceLeDiff, reduceLT, reduceCtorEq]
   intro _
   refine Qd rfl ?_ ?_
   ·intro hc2
    have hn0 : 0 < blk.nx.ns.length := by simpa using hc2
    have hg1 := Q6 blk.nx.ns 0 hn0
    refine Qq ?_
    simp only [go_sem, hyb, hbl5, htk, hbi, hbr, hpcow, hicow, Qbq, List.drop_zero, Nat.zero_add, Nat.le_refl, hny, hn0, hg1, htk2, Qg, reduceIte, reduceEqDiff, reduceAdd, reduceLeDiff, reduceLT, reduceCtorEq]
    refine ⟨by omega, fun H11 h11 => ?_⟩
    have hs1 : (Qe blk.nx.ns).set 0 [C.int IntKind.i64 bad] = Qe (blk.nx.ns.set 0 bad) := by simp [Qe, List.map_set]
    rw [hs1] at h11
    have kn : Kn H H11 [(R.l, R.o (k1 + 1 + 1 + 1 + 1))] ([(yb, .vec 5 (u.blocks.map OBlk.row))] ++ (OBlk.lg { blk with nx := ⟨blk.nx.ns.set 0 bad, blk.nx.y⟩ } ++ (Qacz us ci bi hci ++ ([(x2, Obj.st [.sl true 3 []]), (x3, .st [cc])] ++ cl)))) := kn.stL 1 rfl h11
    refine hdone { blk with nx := ⟨blk.nx.ns.set 0 bad, blk.nx.y⟩ } _ (k1 + 1 + 1 + 1 + 1) _ ⟨hbok.p, hbok.i, hbok.a⟩ ⟨by simpa using hbsm.n, hbsm.i, by have := hbsm.p; show blk.phis.length ≤ _; omega, fun x hx => by have := hbsm.ia x hx; omega⟩ (by omega) (by omega) ?_ (by simp [lk]) (by simp [lk])
    rw [Q4w hbi (by rw [hblk]; simp [OBlk.row, OInts.c])]
    exact kn
   ·intro hc2
    refine Qf ?_
    exact hsame _ (by simp [lk]) (by simp [lk])
  intro hc1
  refine Qa ?_
  simp only [go_sem, reduceIte, reduceEqDiff, reduceAdd, reduceLeDiff, reduceLT, reduceCtorEq]
  refine Qd rfl ?_ ?_
  ·intro hc
   refine Qq ?_
   simp only [go_sem, hyb, hbl5, htk, hbi, hbr, hpcow, hicow, Qbq, List.drop_zero, Nat.zero_add, Nat.le_refl, reduceIte, reduceEqDiff, reduceAdd, reduceLeDiff, reduceLT, reduceCtorEq]
   intro H11 h11
   have hb' : [blk.pc, blk.ic, C.int IntKind.i64 blk.jump, C.int IntKind.i64 bad, C.vsl blk.nx.y 1 0 blk.nx.ns.length] = ({ blk with on := bad } : OBlk).row := rfl
   rw [hb', hset] at h11
   exact hdone { blk with on := bad } _ _ _ ⟨hbok.p, hbok.i, hbok.a⟩ ⟨hbsm.n, hbsm.i, by have := hbsm.p; show blk.phis.length ≤ _; omega, fun x hx => by have := hbsm.ia x hx; omega⟩ (by omega) (by omega) (kn.stL 0 rfl h11) (by simp [lk]) (by simp [lk])
  intro hc2
  refine Qa ?_
  simp only [go_sem, reduceIte, reduceEqDiff, reduceAdd, reduceLeDiff, reduceLT, reduceCtorEq]
  have hilen : lenC blk.ic = blk.ins.length := by rw [hbok.i.lenC]; simp
  have hiok : okSl H9 blk.ic = True := eq_true (hbok.i.slcM kn (fun p hp => by simp [OBlk.lg, hp])).ok
  refine Qd rfl ?_ ?_
  ·intro hc
   refine Qa ?_
   simp only [go_sem, hyb, hbl5, htk, hbi, hbr, hpcow, hicow, Qbq, List.drop_zero, Nat.zero_add, Nat.le_refl, hilen, hiok, reduceIte, reduceEqDiff, reduceAdd, reduceLeDiff, reduceLT, reduceCtorEq]
   intro _
   refine Qd rfl ?_ ?_
   ·intro hc2
    have hn0 : 0 < blk.ins.length := by simpa using hc2
    obtain ⟨yi, hic, hil⟩ := OBlk.ivec hbok hn0
    rw [hic] at hbr
    have knI := Qai6 kn hil
    have hyi := knI.l 0 rfl
    obtain ⟨x, hx⟩ : ∃ x, blk.ins[0] = x := ⟨_, rfl⟩
    have hxr : (blk.ins.map OIns.row).getD 0 [] = [.int .i64 x.op, .int .i64 x.to, .vsl x.a.y 1 0 x.a.ns.length, .int .i64 x.n] := by rw [← hx]; simp [List.getD_eq_getElem?_getD, hn0, OIns.row, OInts.c]
    have hil4 : (blk.ins.map OIns.row).length = blk.ins.length := by simp
    have htk4 : List.take blk.ins.length (blk.ins.map OIns.row) = blk.ins.map OIns.row := List.take_of_length_le (by simp)
    have hxa : x.a.ns.length ≤ 1000 := hbsm.ia x (by rw [← hx]; exact List.getElem_mem hn0)
    refine Qq ?_
    simp only [go_sem, hyb, hbl5, htk, hbi, hbr, hpcow, hicow, Qbq, List.drop_zero, Nat.zero_add, Nat.le_refl, hyi, hn0, hxr, hil4, htk4, reduceIte, reduceEqDiff, reduceAdd, reduceLeDiff, reduceLT, reduceCtorEq]
    refine ⟨by omega, fun H12 h12 => ?_⟩
    have hr' : [C.int IntKind.i64 x.op, C.int IntKind.i64 bad, C.vsl x.a.y 1 0 x.a.ns.length, C.int IntKind.i64 x.n] = ({ x with to := bad } : OIns).row := rfl
    rw [hr', ← List.map_set] at h12
    have knD := Qa2g (b := blk) (is := blk.ins.set 0 { x with to := bad }) (knI.stL 0 rfl h12) (Q0l hn0 (by rw [hx]; rfl))
    refine hdone _ _ (k1 + 1 + 1 + 1 + 1) _ (OBlk.ins_ok (i := 0) (x' := { x with to := bad }) hbok hic) (OBlk.ins_sm (i := 0) (x' := { x with to := bad }) hbsm (by show x.a.ns.length ≤ _; omega)) (by omega) (by omega) ?_ (by simp [lk]) (by simp [lk])
    rw [Q4w hbi (by rw [hblk]; rfl)]
    exact knD
   ·intro hc2
    refine Qf ?_
    exact hsame _ (by simp [lk]) (by simp [lk])
  intro hc3
  refine Qa ?_
  simp only [go_sem, reduceIte, reduceEqDiff, reduceAdd, reduceLeDiff, reduceLT, reduceCtorEq]
  refine Qd rfl ?_ ?_
  ·intro hc
   refine Qa ?_
   simp only [go_sem, hyb, hbl5, htk, hbi, hbr, hpcow, hicow, Qbq, List.drop_zero, Nat.zero_add, Nat.le_refl, hilen, hiok, reduceIte, reduceEqDiff, reduceAdd, reduceLeDiff, reduceLT, reduceCtorEq]
   intro _
   refine Qd rfl ?_ ?_
   ·intro hc2
    have hn0 : 0 < blk.ins.length := by simpa using hc2
    obtain ⟨yi, hic, hil⟩ := OBlk.ivec hbok hn0
    rw [hic] at hbr
    have knI := Qai6 kn hil
    have hyi := knI.l 0 rfl
    obtain ⟨x, hx⟩ : ∃ x, blk.ins[0] = x := ⟨_, rfl⟩
    have hxr : (blk.ins.map OIns.row).getD 0 [] = [.int .i64 x.op, .int .i64 x.to, .vsl x.a.y 1 0 x.a.ns.length, .int .i64 x.n] := by rw [← hx]; simp [List.getD_eq_getElem?_getD, hn0, OIns.row, OInts.c]
    have hil4 : (blk.ins.map OIns.row).length = blk.ins.length := by simp
    have htk4 : List.take blk.ins.length (blk.ins.map OIns.row) = blk.ins.map OIns.row := List.take_of_length_le (by simp)
    have hxa : x.a.ns.length ≤ 1000 := hbsm.ia x (by rw [← hx]; exact List.getElem_mem hn0)
    refine Qbw ?_
    have knA : Kn H H9 [(R.l, R.o (k1 + 1 + 1 + 1 + 1))] ([(x.a.y, .vec 1 (Qe x.a.ns))] ++ ([(yi, .vec 4 (blk.ins.map OIns.row))] ++ ([(yb, .vec 5 (u.blocks.map OBlk.row))] ++ (blk.nx.lg ++ (blk.phis.flatMap OPhi.lg ++ (blk.pl ++ ((blk.ins.eraseIdx 0).flatMap OIns.lg ++ (Qacz us ci bi hci ++ ([(x2, Obj.st [.sl true 3 []]), (x3, .st [cc])] ++ cl))))))))) := knI.perm (Qr fun f hf h0 hc1 hp => by
     have h1 := hp _ _ (Qf0 OIns.lg blk.ins 0 hn0)
     rw [hx] at h1
     have h2 : x.lg = [(x.a.y, .vec 1 (Qe x.a.ns))] := rfl
     rw [h2] at h1
     simp only [hf] at h1 ⊢
     omega)
    have hxy := knA.l 0 rfl
    have htk1 : List.take x.a.ns.length (Qe x.a.ns) = Qe x.a.ns := List.take_of_length_le (by simp [Qg])
    simp only [go_sem, hyb, hbl5, htk, hbi, hbr, hpcow, hicow, Qbq, List.drop_zero, Nat.zero_add, Nat.le_refl, hyi, hn0, hxr, hil4, htk4, hxy, Qg, htk1, reduceIte, reduceEqDiff, reduceAdd, reduceLeDiff, reduceLT, reduceCtorEq]
    refine ⟨by omega, by simp only [LIM]; omega, fun y' hy' H10 h10 => ?_⟩
    have knA := knA.ap 0 rfl hy' h10
    have hyi := knA.l 1 rfl
    have hyb := knA.l 2 rfl
    simp only [go_sem, Q92, hyb, hbl5, htk, hbi, hbr, hpcow, hicow, Qbq, List.drop_zero, Nat.zero_add, Nat.le_refl, hyi, hn0, hxr, hil4, htk4, reduceIte, reduceEqDiff, reduceAdd, reduceLeDiff, reduceLT, reduceCtorEq]
    refine ⟨by omega, fun H12 h12 => ?_⟩
    obtain ⟨x', hx'⟩ : ∃ x' : OIns, x' = { x with a := ⟨x.a.ns ++ [bad], y'⟩ } := ⟨_, rfl⟩
    have hr' : [C.int IntKind.i64 x.op, C.int IntKind.i64 x.to, C.vsl y' 1 0 (x.a.ns.length + 1), C.int IntKind.i64 x.n] = x'.row := by rw [hx']; simp [OIns.row, OInts.c]
    have hl' : x'.lg = [(y', .vec 1 (Qe x.a.ns ++ [[.int .i64 bad]]))] := by rw [hx']; simp [OIns.lg, OInts.lg, Qe]
    rw [hr', ← List.map_set] at h12
    have knA := knA.stL 1 rfl h12
    refine hdone _ _ (k1 + 1 + 1 + 1 + 1) _ (OBlk.ins_ok (i := 0) (x' := x') hbok hic) (OBlk.ins_sm (i := 0) (x' := x') hbsm (by rw [hx']; simp; omega)) (by omega) (by omega) ?_ (by simp [lk]) (by simp [lk])
    rw [Q4w hbi (by rw [hblk]; rfl)]
    refine knA.perm (Qr fun f hf h0 hc1 hp => ?_)
    have h1 := hp _ _ (Qep OIns.lg blk.ins 0 x' hn0)
    rw [hl'] at h1
    simp only [OBlk.lg, List.cons_append, List.nil_append, List.set_cons_zero, List.set_cons_succ, hf, hc1 _ (_ :: _), hc1 _ (_ ++ _), hc1 _ (List.flatMap _ _)] at h1 ⊢
    omega
   ·intro hc2
    refine Qf ?_
    exact hsame _ (by simp [lk]) (by simp [lk])
  intro hc4
  refine Qa ?_
  simp only [go_sem, reduceIte, reduceEqDiff, reduceAdd, reduceLeDiff, reduceLT, reduceCtorEq]
  refine Qd rfl ?_ ?_
  ·intro hc
   refine Qq ?_
   simp only [go_sem, hyb, hbl5, htk, hbi, hbr, hpcow, hicow, Qbq, List.drop_zero, Nat.zero_add, Nat.le_refl, reduceIte, reduceEqDiff, reduceAdd, reduceLeDiff, reduceLT, reduceCtorEq]
   have knP : Kn H H9 [(R.l, R.o (k1 + 1 + 1 + 1 + 1))] (([(yb, .vec 5 (u.blocks.map OBlk.row))] ++ (blk.nx.lg ++ (blk.phis.flatMap OPhi.lg ++ (blk.ins.flatMap OIns.lg ++ (blk.il ++ (Qacz us ci bi hci ++ ([(x2, Obj.st [.sl true 3 []]), (x3, .st [cc])] ++ cl))))))) ++ blk.pl) := kn.perm (Qr fun f hf h0 hc1 hp => by
    simp only [OBlk.lg, hf]
    omega)
   obtain ⟨ph, hph⟩ : ∃ ph : OPhi, ph = ⟨0, [bad], .sl true 1 (Qe [bad]), []⟩ := ⟨_, rfl⟩
   have hphr : [C.int IntKind.i64 0, C.sl true 1 [[C.int IntKind.i64 bad]]] = ph.row := by rw [hph]; rfl
   have hphok : ph.ok := by rw [hph]; exact .inr ⟨true, rfl, rfl⟩
   have hphl : ph.lg = [] := by rw [hph]
   have hpl := hbsm.p
   rw [hphr]
   refine knP.grow (new := [ph.row]) hbok.p (.mk' _ _ _ _) (by intro r hr; simp only [List.mem_singleton] at hr; subst hr; exact ph.noOw hphok) (by simp only [List.length_map, List.length_cons, List.length_nil, LIM]; omega) fun z H10 knP => ?_
   have hyb := knP.l 0 rfl
   simp only [go_sem, Q1u, hyb, hbl5, htk, hbi, hbr, hpcow, hicow, Qbq, List.drop_zero, Nat.zero_add, Nat.le_refl, reduceIte, reduceEqDiff, reduceAdd, reduceLeDiff, reduceLT, reduceCtorEq]
   intro H11 h11
   obtain ⟨b', hb'⟩ : ∃ b' : OBlk, b' = { blk with phis := blk.phis ++ [ph], pc := .vsl z 2 0 ((blk.phis.map OPhi.row).length + 1), pl := [(z, .vec 2 ((blk.phis ++ [ph]).map OPhi.row))] } := ⟨_, rfl⟩
   have hbr' : [C.vsl z 2 0 ((blk.phis.map OPhi.row).length + 1), blk.ic, C.int IntKind.i64 blk.jump, C.int IntKind.i64 blk.on, C.vsl blk.nx.y 1 0 blk.nx.ns.length] = b'.row := by rw [hb']; rfl
   rw [hbr', hset] at h11
   have knP := knP.stL 0 rfl h11
   have hbok' : b'.ok := by
    rw [hb']
    refine ⟨.mk _ _ _ (by simp), hbok.i, fun p hp => ?_⟩
    rcases List.mem_append.1 hp with h | h
    ·exact hbok.a p h
    ·simp only [List.mem_singleton] at h; subst h; exact hphok
   have hbsm' : b'.sm 1001 := by
    rw [hb']
    exact ⟨hbsm.n, hbsm.i, by simp; omega, fun x hx => by have := hbsm.ia x hx; omega⟩
   refine hdone b' _ (k1 + 1 + 1 + 1 + 1) _ hbok' hbsm' (by omega) (by omega) ?_ (by simp [lk]) (by simp [lk])
   have hbl' : b'.lg = blk.nx.lg ++ (blk.phis.flatMap OPhi.lg ++ ([(z, .vec 2 ((blk.phis ++ [ph]).map OPhi.row))] ++ (blk.ins.flatMap OIns.lg ++ blk.il))) := by
    rw [hb']; simp [OBlk.lg, List.flatMap_append, hphl]
   rw [hbl']
   have hmm : blk.phis.map OPhi.row ++ [ph.row] = (blk.phis ++ [ph]).map OPhi.row := by simp
   rw [hmm] at knP
   refine knP.perm (Qr fun f hf h0 hc1 hp => ?_)
   simp only [List.cons_append, List.nil_append, List.set_cons_zero, List.set_cons_succ, hf, hc1 _ (_ :: _), hc1 _ (_ ++ _), hc1 _ (List.flatMap _ _)]
   omega
  intro hc5
  refine Qa ?_
  simp only [go_sem, reduceIte, reduceEqDiff, reduceAdd, reduceLeDiff, reduceLT, reduceCtorEq]
  refine Qd rfl ?_ ?_
  ·intro hc
   refine Qbw ?_
   simp only [go_sem, hcow, hsok, hlen, hsz, hci, hrws, hrow, reduceIte, reduceEqDiff, reduceAdd, reduceLeDiff, reduceLT, reduceCtorEq]
   refine Qa7 (kn.e 0 rfl) (by omega) fun v H10 hv hu10 => ?_
   have knO := knO.callE 0 rfl hu10 (R.o_ne _)
   obtain ⟨yc, hcc, hcl⟩ : ∃ yc, cc = .vsl yc 3 0 us.length ∧ cl = [(yc, .vec 3 (us.map OCode.row))] := by
    rcases hgr with ⟨h1, h2, h3⟩ | ⟨y, h1, h2⟩
    ·rw [List.map_eq_nil_iff] at h2; rw [h2] at hci; simp at hci
    ·exact ⟨y, by rw [h1]; simp, h2⟩
   have hyc : H10 yc = .vec 3 (us.map OCode.row) := knO.lm (by rw [hcl]; simp)
   have hul3 : (us.map OCode.row).length = us.length := by simp
   have htk3 : List.take us.length (us.map OCode.row) = us.map OCode.row := List.take_of_length_le (by simp)
   have hbcow := huok.b.isOw
   simp only [go_sem, Q1v, hcc, hyc, hul3, htk3, hci, hrow, Qbq, List.drop_zero, Nat.zero_add, Nat.le_refl, reduceIte, reduceEqDiff, reduceAdd, reduceLeDiff, reduceLT, reduceCtorEq]
   have hp0 := husm.p0
   have hp1 := husm.p1
   rw [if_neg (by omega)] at hv
   refine ⟨Qo (by omega) (by omega), fun H11 h11 => ?_⟩
   obtain ⟨u', hu'⟩ : ∃ u' : OCode, u' = { u with regs := u.params + v } := ⟨_, rfl⟩
   have hur : [C.int IntKind.i64 u.params, C.int IntKind.i64 (u.params + v), C.vsl yb 5 0 u.blocks.length] = u'.row := by rw [hu', ← hbc]; rfl
   have hul' : u'.lg = u.lg := by rw [hu']; rfl
   have huok' : u'.ok := by rw [hu']; exact ⟨huok.b, huok.bs⟩
   have husm' : u'.sm 1000 := by rw [hu']; exact ⟨husm.b0, husm.b, husm.bs, husm.p0, husm.p1⟩
   rw [hur, ← List.map_set] at h11
   have knF : Kn H H10 [(R.l, R.o (k1 + 1 + 1 + 1 + 1 + 1))] ([(yc, .vec 3 (us.map OCode.row))] ++ ([(x2, Obj.st [.sl true 3 []]), (x3, .st [cc])] ++ us.flatMap OCode.lg)) := by
    rw [hcl] at knO
    exact knO.perm List.perm_append_comm
   have knF := knF.stL 0 rfl h11
   refine hn _ _ ⟨k1 + 1 + 1 + 1 + 1 + 1, us.set ci u', [(yc, .vec 3 ((us.set ci u').map OCode.row))], by simpa using hul, by omega, by omega, fun w hw => ?_, ?_, ?_, by simp [lk], by simp [lk]⟩
   ·rcases List.mem_or_eq_of_mem_set hw with hw | rfl
    ·exact ⟨(hok w hw).1, (hok w hw).2.mono (by omega)⟩
    ·exact ⟨huok', husm'.mono (by omega)⟩
   ·rw [hcc]; exact .mk _ _ _ (by simp)
   ·refine knF.perm (Qr fun f hf h0 hc1 hp => ?_)
    have h1 := hp _ _ (Qep OCode.lg us ci u' hci)
    have h2 := hp _ _ (Qf0 OCode.lg us ci hci)
    rw [hul'] at h1
    rw [hu] at h2
    simp only [List.cons_append, List.nil_append, List.set_cons_zero, hf, hc1 _ (_ :: _), hc1 _ (_ ++ _), hc1 _ (List.flatMap _ _)] at h1 h2 ⊢
    omega
  intro hc6
  refine Qa ?_
  simp only [go_sem, reduceIte, reduceEqDiff, reduceAdd, reduceLeDiff, reduceLT, reduceCtorEq]
  refine Qd rfl ?_ ?_
  ·intro hc
   refine Qa ?_
   simp only [go_sem, hyb, hbl5, htk, hbi, hbr, hpcow, hicow, Qbq, List.drop_zero, Nat.zero_add, Nat.le_refl, hilen, hiok, reduceIte, reduceEqDiff, reduceAdd, reduceLeDiff, reduceLT, reduceCtorEq]
   intro _
   refine Qd rfl ?_ ?_
   ·intro hc2
    have hn0 : 0 < blk.ins.length := by simpa using hc2
    obtain ⟨yi, hic, hil⟩ := OBlk.ivec hbok hn0
    rw [hic] at hbr
    have knI := Qai6 kn hil
    have hyi := knI.l 0 rfl
    obtain ⟨x, hx⟩ : ∃ x, blk.ins[0] = x := ⟨_, rfl⟩
    have hxr : (blk.ins.map OIns.row).getD 0 [] = [.int .i64 x.op, .int .i64 x.to, .vsl x.a.y 1 0 x.a.ns.length, .int .i64 x.n] := by rw [← hx]; simp [List.getD_eq_getElem?_getD, hn0, OIns.row, OInts.c]
    have hil4 : (blk.ins.map OIns.row).length = blk.ins.length := by simp
    have htk4 : List.take blk.ins.length (blk.ins.map OIns.row) = blk.ins.map OIns.row := List.take_of_length_le (by simp)
    have hxa : x.a.ns.length ≤ 1000 := hbsm.ia x (by rw [← hx]; exact List.getElem_mem hn0)
    refine Qbw ?_
    simp only [go_sem, hyb, hbl5, htk, hbi, hbr, hpcow, hicow, Qbq, List.drop_zero, Nat.zero_add, Nat.le_refl, hyi, hn0, hxr, hil4, htk4, reduceIte, reduceEqDiff, reduceAdd, reduceLeDiff, reduceLT, reduceCtorEq]
    refine Qi6 (ns := [256, -1, 1]) (knI.e 0 rfl) (by omega) (by simp) fun v H10 hv hu10 => ?_
    have knI := knI.callE 0 rfl hu10 (R.o_ne _)
    have hyi := knI.l 0 rfl
    have hyb := knI.l 1 rfl
    simp only [go_sem, Q1w, hyb, hbl5, htk, hbi, hbr, hpcow, hicow, Qbq, List.drop_zero, Nat.zero_add, Nat.le_refl, hyi, hn0, hxr, hil4, htk4, reduceIte, reduceEqDiff, reduceAdd, reduceLeDiff, reduceLT, reduceCtorEq]
    refine ⟨by omega, fun H12 h12 => ?_⟩
    have hr' : [C.int IntKind.i64 x.op, C.int IntKind.i64 x.to, C.vsl x.a.y 1 0 x.a.ns.length, C.int IntKind.i64 v] = ({ x with n := v } : OIns).row := rfl
    rw [hr', ← List.map_set] at h12
    have knD := Qa2g (b := blk) (is := blk.ins.set 0 { x with n := v }) (knI.stL 0 rfl h12) (Q0l hn0 (by rw [hx]; rfl))
    refine hdone _ _ (k1 + 1 + 1 + 1 + 1 + 1) _ (OBlk.ins_ok (i := 0) (x' := { x with n := v }) hbok hic) (OBlk.ins_sm (i := 0) (x' := { x with n := v }) hbsm (by show x.a.ns.length ≤ _; omega)) (by omega) (by omega) ?_ (by simp [lk]) (by simp [lk])
    rw [Q4w hbi (by rw [hblk]; rfl)]
    exact knD
   ·intro hc2
    refine Qf ?_
    exact hsame _ (by simp [lk]) (by simp [lk])
  ·intro hc
   refine Qf ?_
   exact hsame _ (by simp [lk]) (by simp [lk])
 ·rintro e2 H10 ⟨k3, us, cl, hul, hk3, hk4, hok, hgr, kn, l2, l3⟩
  have hx2 := kn.l 0 rfl
  have hx3 := kn.l 1 rfl
  refine Qa ?_
  simp only [go_sem, hx2, hx3, hcow, l2, l3, reduceIte, reduceEqDiff, reduceAdd, reduceLeDiff, reduceLT, reduceCtorEq]
  intro H8 h8
  have kn := kn.stL 0 rfl h8
  have hx2 := kn.l 0 rfl
  refine Qj ?_
  simp only [go_sem, Qz, Qac, Qax3, reduceIte, List.mem_singleton, forall_eq, RS.op, hx2, hcow, reduceIte, reduceEqDiff, reduceAdd, reduceLeDiff, reduceLT, reduceCtorEq]
  have hheld : Held H8 (un H) (us.flatMap OCode.lg ++ cl) := fun p hp => by
   have hp2 : p ∈ (([(x2, Obj.st [cc]), (x3, Obj.st [cc])] ++ us.flatMap OCode.lg) ++ cl) := by
    rcases List.mem_append.1 hp with h | h
    ·simp [h]
    ·simp [h]
   exact ⟨(kn.get p (List.mem_append_right _ hp2)).1, Qlk (kn.loc p hp2)⟩
  obtain ⟨cs, hf, hcn, hcs⟩ := OCodes.frz (N := 1001) (by omega) hgr hok hheld
  exact ⟨_, FrzL.ag (.cons hf .nil), hK cs _ k3 hk3 (by omega) kn.fin (by omega) (by omega) hcs⟩
end Go.AE.Y

namespace Go.AE.Y
open Go.Proofs.Tryz
theorem Qai9 {R : Rdr} {fl : Bool} {ss : List (List UInt8)} : ∀ (d : Nat) {k : Nat} {H : Heap} {K : V → Heap → Prop} (deep : Int), deep ≤ d → H R.l = R.o k → k + 6 * 2^d ≤ 2^40 →
    (∀ (x : Ex) (H' : Heap) (k' : Nat), k < k' → k' + 3 ≤ k + 6 * 2^d → Upd H H' [(R.l, R.o k')] → x.ok → k + x.size ≤ k' → K (.ag x.cells) H') →
    Qp prog Qez [.c (.ptr R.l 0), .c (.sl fl 1 (Qbd ss)), .c (.int .i64 deep)] H K := by
  intro d
  induction d using Nat.strongRecOn with
  | ind d ih =>
  intro k H K deep hd hH hk hK
  have hp1 : 1 ≤ 2^d := Nat.one_le_two_pow
  have hp0 : d < 2^d := Nat.lt_two_pow_self
  refine Q0 ?_
  refine Qb Qat Qa67 ?_
  refine Qa ?_
  simp only [go_sem, reduceIte, reduceEqDiff, reduceAdd, reduceLeDiff, reduceLT, reduceCtorEq]
  intro x hx H1 h1
  have kn := (Kn.start1 hH (R.o_ne k)).al hx h1
  refine Q4 ?_
  refine Qa ?_
  simp only [go_sem, reduceIte, reduceEqDiff, reduceAdd, reduceLeDiff, reduceLT, reduceCtorEq]
  have rest : ∀ (b : Bool) (H2 : Heap) (k2 : Nat), k ≤ k2 → k2 ≤ k + 1 → Kn H H2 [(R.l, R.o k2)] [(x, .st [.int .i64 0, .int .i64 0, .str [], .sl true 4 []])] → (b = false → 2 ≤ deep) →
      Qah prog (s_l2Expr_2.seq Q77) (Qz Q43 fun x H' => ∃ x', FrzV H' (un H) x x' ∧ K x' (H'.frz (un H)))
       [(0, V.c (C.ptr R.l 0)), (1, V.c (C.sl fl 1 (Qbd ss))), (2, .c (.int .i64 deep)), (6, V.c (C.ptr x 0)), (14, V.c (.bool b))] H2 := by
    intro b H2 k2 hk1 hk2 kn hb
    have fin : ∀ (op n : Int) (name : List UInt8) (fl : Bool) (kids : List Ex) (H3 : Heap) (k3 : Nat) (o : Obj), k < k3 → k3 + 3 ≤ k + 6 * 2^d → Kn H H3 [(R.l, R.o k3)] [(x, .st [.int .i64 op, .int .i64 n, .str name, .sl fl 4 (Qbj kids)])] →
        (op = 10 → kids.length = 2) → Qdn kids → k + 1 + Qae kids ≤ k3 →
        Qac Q43 [(6, V.c (C.ptr x 0))] H3 fun x H' => ∃ x', FrzV H' (un H) x x' ∧ K x' (H'.frz (un H)) := by
      intro op n name fl kids H3 k3 o g1 g2 kn g3 g4 g5
      have hx3 := kn.l 0 rfl
      simp only [go_sem, Qac, Q43, reduceIte, List.mem_singleton, forall_eq, RS.op, hx3, reduceIte, reduceEqDiff, reduceAdd, reduceLeDiff, reduceLT, reduceCtorEq]
      refine ⟨_, (Ex.mk op n name kids).frz, hK _ _ k3 g1 g2 kn.fin ?_ ?_⟩
      · simp only [Ex.ok]; exact ⟨g3, g4⟩
      · simp only [Ex.size]; omega
    refine Qh (Qd rfl ?_ ?_)
    · intro hb'
      refine Qa ?_
      simp only [go_sem, reduceIte, reduceEqDiff, reduceAdd, reduceLeDiff, reduceLT, reduceCtorEq]
      refine Qa6u (kn.e 0 rfl) (by omega) fun y H3 k3 g1 g2 hu hok hsz => ?_
      have kn := kn.callE 0 rfl hu (R.o_ne _)
      have hx3 := kn.l 0 rfl
      simp only [go_sem, Q78, hx3, y.cells_eq, reduceIte, reduceEqDiff, reduceAdd, reduceLeDiff, reduceLT, reduceCtorEq]
      intro H4 h4
      have kn := kn.stL 0 rfl h4
      refine Qj ?_
      simp only [go_sem, Qz]
      refine fin _ _ _ _ _ _ k3 .none (by omega) (by omega) kn (Ex.ok_and hok) (Ex.ok_kids hok) ?_
      have := y.size_kids; omega
    · intro hb'
      have hdp := hb hb'
      have hp : 2^d = 2 * 2^(d-1) := by rw [← Nat.pow_succ']; congr 1; omega
      have hp2 : 1 ≤ 2^(d-1) := Nat.one_le_two_pow
      have ihd := fun {k H K} => @ih (d-1) (by omega) k H K
      generalize 2^(d-1) = e at *
      refine Qf ?_
      simp only [go_sem]
      refine Q4 ?_
      refine Qa ?_
      simp only [go_sem, reduceIte, reduceEqDiff, reduceAdd, reduceLeDiff, reduceLT, reduceCtorEq]
      refine Qa7 (kn.e 0 rfl) (by omega) fun v H3 hv hu => ?_
      have kn := kn.callE 0 rfl hu (R.o_ne _)
      simp only [go_sem, Q79, reduceIte, reduceEqDiff, reduceAdd, reduceLeDiff, reduceLT, reduceCtorEq]
      refine Qh (Qd rfl ?_ ?_)
      · intro hc
        refine Qa ?_
        simp only [go_sem, reduceIte, reduceEqDiff, reduceAdd, reduceLeDiff, reduceLT, reduceCtorEq]
        refine Qi6 (ns := [11, 12, 11]) (kn.e 0 rfl) (by omega) (by simp) fun op H4 hop hu => ?_
        have kn := kn.callE 0 rfl hu (R.o_ne _)
        simp only [go_sem, Q8b, reduceIte, reduceEqDiff, reduceAdd, reduceLeDiff, reduceLT, reduceCtorEq]
        refine ⟨Qo (by omega) (by omega), ?_⟩
        refine ihd (deep - 1) (by omega) (kn.e 0 rfl) (by omega) fun y H5 k5 g1 g2 hu hok hsz => ?_
        have kn := kn.callE 0 rfl hu (R.o_ne _)
        have hx5 := kn.l 0 rfl
        simp only [go_sem, Q8a, hx5, y.cells_len, reduceIte, reduceEqDiff, reduceAdd, reduceLeDiff, reduceLT, reduceCtorEq]
        intro H6 h6
        have kn := kn.stL 0 rfl h6
        refine Qj ?_
        simp only [go_sem, Qz]
        refine fin op 0 [] true [y] _ k5 .none (by omega) (by omega) kn (fun h => ?_) ⟨hok, trivial⟩ ?_
        · subst h; simp at hop
        · simp only [Qae]; omega
      · intro hc
        refine Qf ?_
        simp only [go_sem]
        refine Qa ?_
        simp only [go_sem, reduceIte, reduceEqDiff, reduceAdd, reduceLeDiff, reduceLT, reduceCtorEq]
        refine Qi6 (ns := [3, 3, 4, 5, 6, 7, 8, 9, 10]) (kn.e 0 rfl) (by omega) (by simp) fun op H4 hop hu => ?_
        have kn := kn.callE 0 rfl hu (R.o_ne _)
        simp only [go_sem, Q8c, reduceIte, reduceEqDiff, reduceAdd, reduceLeDiff, reduceLT, reduceCtorEq]
        refine Qa ?_
        simp only [go_sem, reduceIte, reduceEqDiff, reduceAdd, reduceLeDiff, reduceLT, reduceCtorEq]
        refine ⟨Qo (by omega) (by omega), ?_⟩
        refine ihd (deep - 1) (by omega) (kn.e 0 rfl) (by omega) fun y H5 k5 g1 g2 hu hok hsz => ?_
        have kn := kn.callE 0 rfl hu (R.o_ne _)
        simp only [go_sem, Q8e, reduceIte, reduceEqDiff, reduceAdd, reduceLeDiff, reduceLT, reduceCtorEq]
        refine ⟨Qo (by omega) (by omega), ?_⟩
        refine ihd (deep - 1) (by omega) (kn.e 0 rfl) (by omega) fun z H6 k6 g3 g4 hu hok2 hsz2 => ?_
        have kn := kn.callE 0 rfl hu (R.o_ne _)
        have hx5 := kn.l 0 rfl
        simp only [go_sem, Q8d, hx5, y.cells_len, z.cells_len, reduceIte, reduceEqDiff, reduceAdd, reduceLeDiff, reduceLT, reduceCtorEq]
        intro H7 h7
        have kn := kn.stL 0 rfl h7
        refine Qj ?_
        simp only [go_sem, Qz]
        refine fin op 0 [] true [y, z] _ k6 .none (by omega) (by omega) kn (fun h => rfl) ⟨hok, hok2, trivial⟩ ?_
        simp only [Qae]; omega
  refine ⟨fun hb => ?_, fun hb => ?_⟩
  · refine Qa7 (kn.e 0 rfl) (by omega) fun v H2 hv hu => ?_
    have kn := kn.callE 0 rfl hu (R.o_ne _)
    simp only [go_sem, Qvf, reduceIte, reduceEqDiff, reduceAdd, reduceLeDiff, reduceLT, reduceCtorEq]
    refine rest _ H2 (k + 1) (by omega) (by omega) kn ?_
    intro h
    have : ¬ deep < 2 := by simpa using hb
    omega
  · have hb2 : decide (deep < 2) = true := by simpa using hb
    simp only [go_sem, Qvf, hb2, reduceIte, reduceEqDiff, reduceAdd, reduceLeDiff, reduceLT, reduceCtorEq]
    exact rest true H1 k (by omega) (by omega) kn (fun h => by simp at h)
end Go.AE.Y

namespace Go.AE.Y
open Go.Proofs.Tryz
theorem Qaja {R : Rdr} {gl k : Nat} {s : GS} {H : Heap} {K : V → Heap → Prop} (hR : H R.l = R.o k) (hG : H gl = s.o R) (hne : R.l ≠ gl) (hs : s.ok k) (hk : k + 2 ≤ 2^30)
  (hK : ∀ (name : List UInt8) (H' : Heap) (k' : Nat), k + 1 ≤ k' → k' ≤ k + 2 → Upd H H' [(R.l, R.o k'), (gl, GS.o { s with next := s.next + 1 } R)] → K (.c (.str name)) H') :
  Qp prog Qh4 [.c (.ptr gl 0)] H K := by
 have h0 := hs.n0
 have h1' := hs.n1
 refine Q0 ?_
 refine Qb Qat Qajn ?_
 refine Qa ?_
 simp only [go_sem, reduceIte, reduceEqDiff, reduceAdd, reduceLeDiff, reduceLT, reduceCtorEq]
 refine Qa ?_
 simp only [go_sem, hG, GS.o, reduceIte, reduceEqDiff, reduceAdd, reduceLeDiff, reduceLT, reduceCtorEq]
 refine ⟨Qo (by omega) (by omega), fun H1 h1 => ?_⟩
 have kn : Kn H H1 [(R.l, R.o k), (gl, GS.o { s with next := s.next + 1 } R)] [] := (Kn.start2 hR (R.o_ne k) hG (s.o_ne R) hne).stE 1 rfl h1
 have hG1 := kn.e 1 rfl
 refine Q4 ?_
 refine Qa ?_
 simp only [go_sem, hG1, GS.o, reduceIte, reduceEqDiff, reduceAdd, reduceLeDiff, reduceLT, reduceCtorEq]
 refine Qa7 (kn.e 0 rfl) (by omega) fun v H2 hv hu => ?_
 have kn := kn.callE 0 rfl hu (R.o_ne _)
 have hG2 := kn.e 1 rfl
 simp only [go_sem, Ql7, hG2, GS.o, reduceIte, reduceEqDiff, reduceAdd, reduceLeDiff, reduceLT, reduceCtorEq]
 intro hl
 refine Qh (Qd rfl ?_ ?_)
 ·intro hc
  have hv0 : 0 < s.vars.length := by
   rw [Qaq] at hc
   cases h : decide (v = 0) <;> rw [h] at hc <;> simp_all
  refine Qan ?_
  simp only [go_sem, hG2, GS.o, reduceIte, reduceEqDiff, reduceAdd, reduceLeDiff, reduceLT, reduceCtorEq]
  refine of_c (kn.e 0 rfl) (by omega) hv0 fun name H3 hn hu => ?_
  have kn := kn.callE 0 rfl hu (R.o_ne _)
  simp only [go_sem, Ql8, reduceIte, reduceEqDiff, reduceAdd, reduceLeDiff, reduceLT, reduceCtorEq]
  refine Qj ?_
  simp only [go_sem, Qz, Qac, Qkx, reduceIte, List.mem_singleton, forall_eq, RS.op, reduceIte, reduceEqDiff, reduceAdd, reduceLeDiff, reduceLT, reduceCtorEq]
  exact ⟨_, .c _ _ (Qi rfl), hK _ _ (k + 1 + 1) (by omega) (by omega) kn.fin⟩
 ·intro hc
  refine Qf ?_
  simp only [go_sem]
  refine Qan ?_
  have e1 : 0 ≤ (s.next + 1).tmod 24 := Int.tmod_nonneg _ (by omega)
  have e2 : (s.next + 1).tmod 24 < 24 := Int.tmod_lt_of_pos _ (by omega)
  simp only [go_sem, hG2, GS.o, reduceIte, reduceEqDiff, reduceAdd, reduceLeDiff, reduceLT, reduceCtorEq]
  refine ⟨by omega, by omega, Qo (by omega) (by omega), by omega, ?_⟩
  refine Qj ?_
  simp only [go_sem, Qz, Qac, Qkx, reduceIte, List.mem_singleton, forall_eq, RS.op, reduceIte, reduceEqDiff, reduceAdd, reduceLeDiff, reduceLT, reduceCtorEq]
  exact ⟨_, .c _ _ (Qi rfl), hK _ _ (k + 1) (by omega) (by omega) kn.fin⟩
theorem Q51 {R : Rdr} {gl k : Nat} {s : GS} {x : Ex} {fl : Bool} {H : Heap} {K : V → Heap → Prop} (hR : H R.l = R.o k) (hG : H gl = s.o R) (hne : R.l ≠ gl) (hs : s.ok k) (hk : k + 2 ≤ 2^30)
  (hK : ∀ (name : List UInt8) (H' : Heap) (k' : Nat), k + 1 ≤ k' → k' ≤ k + 2 → Upd H H' [(R.l, R.o k'), (gl, GS.o { s with next := s.next + 1, vars := s.vars ++ [name], vfl := false } R)] → K (.ag (St.mk 1 name [x] [] []).cells) H') :
  Qp prog Qhd [.c (.ptr gl 0), .ag [.int .i64 x.op, .int .i64 x.n, .str x.name, .sl fl 4 (Qbj x.kids)]] H K := by
 have hv := hs.v
 refine Qew ?_
 refine Qb Qat Qarw ?_
 refine Qa ?_
 simp only [go_sem, x.cells_eq, reduceIte, reduceEqDiff, reduceAdd, reduceLeDiff, reduceLT, reduceCtorEq]
 intro y hy H1 h1
 have kn := (Kn.start2 hR (R.o_ne k) hG (s.o_ne R) hne).al hy h1
 refine Qa ?_
 simp only [go_sem, reduceIte, reduceEqDiff, reduceAdd, reduceLeDiff, reduceLT, reduceCtorEq]
 refine Qaja (kn.e 0 rfl) (kn.e 1 rfl) hne hs hk fun name H2 k' g1 g2 hu => ?_
 have kn := kn.callEE 0 1 rfl rfl (by decide) hu (R.o_ne _) (GS.o_ne _ _)
 have hG2 := kn.e 1 rfl
 simp only [go_sem, Qtx, reduceIte, reduceEqDiff, reduceAdd, reduceLeDiff, reduceLT, reduceCtorEq]
 refine Qa ?_
 have hL : s.vars.length ≤ LIM := by simp only [LIM]; omega
 have hL1 : s.vars.length + 1 ≤ LIM := by simp only [LIM]; omega
 simp only [go_sem, hG2, GS.o, Qaq, Qail, Nat.zero_add, List.nil_append, hL, reduceIte, reduceEqDiff, reduceAdd, reduceLeDiff, reduceLT, reduceCtorEq]
 refine ⟨.inl trivial, Qli _, ?_⟩
 intro z hz H3 h3
 have kn := kn.al hz h3
 have hz3 := kn.l 1 rfl
 have hG3 := kn.e 1 rfl
 simp only [go_sem, Qtz, hz3, hG3, GS.o, Qaq, Qaxd, hL1, List.take_length, List.take_of_length_le, reduceIte, reduceEqDiff, reduceAdd, reduceLeDiff, reduceLT, reduceCtorEq]
 refine ⟨by omega, fun z' hz' H4 h4 => ?_⟩
 have kn := kn.ap 1 rfl hz' h4
 have hG4 := kn.e 1 rfl
 simp only [go_sem, Qty, hG4, GS.o, reduceIte, reduceEqDiff, reduceAdd, reduceLeDiff, reduceLT, reduceCtorEq]
 intro H5 h5
 have kn := kn.stE 1 rfl h5
 have hy5 := kn.l 0 rfl
 refine Qa ?_
 simp only [go_sem, hy5, reduceIte, reduceEqDiff, reduceAdd, reduceLeDiff, reduceLT, reduceCtorEq]
 intro H6 h6
 have kn := kn.stL 0 rfl h6
 have hy6 := kn.l 0 rfl
 refine Qj ?_
 simp only [go_sem, Qz, Qac, Q6r, reduceIte, List.mem_singleton, forall_eq, RS.op, hy6, reduceIte, reduceEqDiff, reduceAdd, reduceLeDiff, reduceLT, reduceCtorEq]
 refine ⟨un H, (.ag (St.mk 1 name [x] [] []).cells), (H6.frz (un H)).set gl (GS.o { s with next := s.next + 1, vars := s.vars ++ [name], vfl := false } R), ?_, ?_, hK name _ k' g1 g2 (kn.fin.set2 hne)⟩
 ·simp only [St.cells, Qbj, Qaz, x.cells_eq]
  exact (FrzL.cons (Qi rfl) (.cons (Qi rfl) (.cons (FrzR.cons (.cons (Qi rfl) (.cons (Qi rfl) (.cons (Qi rfl) (.cons (FrzR.same (Qit _)).sl .nil)))) .nil).sl (.cons (FrzR.nil).sl (.cons (FrzR.nil).sl .nil))))).ag
 ·refine (Qdq _ _).set (Qaxe (kn.usedE 1 rfl)) ?_
  rw [kn.e 1 rfl]
  refine FrzKL.st (.same (.same (.cons rfl ?_ (.same (.same .nil)))))
  exact Qai3 (kn.un 1 rfl) (kn.l 1 rfl) (by simp [Qbd]) (Qhg (Qli _))
end Go.AE.Y

namespace Go.AE.Y
open Go.Proofs.Tryz
theorem Qby {R : Rdr} {gl k : Nat} {s : GS} {H : Heap} {K : V → Heap → Prop} (deep : Int) (hd : deep ≤ 3) (hR : H R.l = R.o k) (hG : H gl = s.o R) (hne : R.l ≠ gl) (hs : s.ok k) (hF : FnsOk H R gl s) (hk : k + 200 ≤ 2^30)
    (hK : ∀ (x : Ex) (H' : Heap) (k' : Nat), k < k' → k' ≤ k + 200 → Upd H H' [(R.l, R.o k')] → x.ok → k + x.size ≤ k' → K (.ag x.cells) H') :
    Qp prog Qa6 [.c (.ptr gl 0), .c (.int .i64 deep)] H K := by
  have hfl := hs.fn
  refine Q0 ?_
  refine Qb Qat Qam4 ?_
  refine Qa ?_
  simp only [go_sem, reduceIte, reduceEqDiff, reduceAdd, reduceLeDiff, reduceLT, reduceCtorEq]
  intro x4 hx4 H1 h1
  have kn := (Kn.start2 hR (R.o_ne k) hG (s.o_ne R) hne).al hx4 h1
  have hG1 := kn.e 1 rfl
  refine Qan ?_
  simp only [go_sem, hG1, GS.o, reduceIte, reduceEqDiff, reduceAdd, reduceLeDiff, reduceLT, reduceCtorEq]
  refine Qai9 3 deep (by omega) (kn.e 0 rfl) (by omega) fun e H2 k2 g1 g2 hu heok hesz => ?_
  have kn := kn.callE 0 rfl hu (R.o_ne _)
  have hG2 := kn.e 1 rfl
  simp only [go_sem, Qp0, reduceIte, reduceEqDiff, reduceAdd, reduceLeDiff, reduceLT, reduceCtorEq]
  intro x5 hx5 H3 h3
  have kn := kn.al hx5 h3
  have hG3 := kn.e 1 rfl
  have hx53 := kn.l 1 rfl
  simp only [go_sem, Qpz, hG3, hx53, GS.o, e.cells_len, e.cells_eq, reduceIte, reduceEqDiff, reduceAdd, reduceLeDiff, reduceLT, reduceCtorEq]
  intro H4 h4
  have kn := kn.stL 1 rfl h4
  have hG4 := kn.e 1 rfl
  refine Q4 ?_
  refine Qa ?_
  simp only [go_sem, hG4, GS.o, hF.ow, hF.ok kn, hF.len, reduceIte, reduceEqDiff, reduceAdd, reduceLeDiff, reduceLT, reduceCtorEq]
  intro hl
  have fin : ∀ (op n : Int) (name : List UInt8) (c : C) (kids : List Ex) (H3 : Heap) (k3 : Nat) (L : List (Nat × Obj)), k < k3 → k3 ≤ k + 200 → Kn H H3 [(R.l, R.o k3), (gl, s.o R)] L →
      L[0]? = some (x4, .st [.int .i64 op, .int .i64 n, .str name, c]) → c.isOw = false → FrzC H3 (un H) c (.sl false 4 (Qbj kids)) → (Ex.mk op n name kids).ok → k + (Ex.mk op n name kids).size ≤ k3 →
      Qac Qhm [(4, V.c (C.ptr x4 0))] H3 fun x H' => ∃ x', FrzV H' (un H) x x' ∧ K x' (H'.frz (un H)) := by
    intro op n name c kids H3 k3 L g1 g2 kn g3 hno g4 g5 g6
    have hx3 := kn.l 0 g3
    simp only [go_sem, Qac, Qhm, reduceIte, List.mem_singleton, forall_eq, RS.op, hx3, hno, reduceIte, reduceEqDiff, reduceAdd, reduceLeDiff, reduceLT, reduceCtorEq]
    refine ⟨(.ag (Ex.mk op n name kids).cells), ?_, hK _ _ k3 g1 g2 (kn.fin.drop2 hG) g5 g6⟩
    rw [Ex.cells_eq]
    exact (FrzL.cons (Qi rfl) (.cons (Qi rfl) (.cons (Qi rfl) (.cons g4 .nil)))).ag
  have rest : ∀ (b : Bool) (H2 : Heap) (k3 : Nat), k2 ≤ k3 → k3 ≤ k2 + 1 → Kn H H2 [(R.l, R.o k3), (gl, s.o R)] [(x4, .st [.int .i64 0, .int .i64 0, .str [], .sl true 4 []]), (x5, .st [.int .i64 e.op, .int .i64 e.n, .str e.name, .sl false 4 (Qbj e.kids)])] →
      (b = false → 0 < s.fns.length) →
      Qah prog (s_l3Gen_expr_3.seq Qpy) (Qz Qhm fun x H' => ∃ x', FrzV H' (un H) x x' ∧ K x' (H'.frz (un H)))
       [(0, V.c (C.ptr gl 0)), (4, V.c (C.ptr x4 0)), (5, V.c (C.ptr x5 0)), (32, .c (.bool b))] H2 := by
    intro b H2 k3 g3 g4 kn hb
    have hx52 := kn.l 1 rfl
    have hx42 := kn.l 0 rfl
    refine Qh (Qd rfl ?_ ?_)
    · intro hb'
      refine Qa ?_
      simp only [go_sem, hx52, hx42, reduceIte, reduceEqDiff, reduceAdd, reduceLeDiff, reduceLT, reduceCtorEq]
      intro H3 h3
      have kn := kn.stL 0 rfl h3
      refine Qj ?_
      simp only [go_sem, Qz]
      cases e with
      | mk op n name kids => exact fin op n name _ kids H3 k3 _ (by omega) (by omega) kn rfl rfl (Q5w (Qhg (Qit _))) heok (by omega)
    · intro hb'
      have hfn := hb hb'
      refine Qf ?_
      simp only [go_sem]
      have hG3 := kn.e 1 rfl
      refine Qan ?_
      simp only [go_sem, hG3, GS.o, hF.ow, hF.ok kn, hF.len, reduceIte, reduceEqDiff, reduceAdd, reduceLeDiff, reduceLT, reduceCtorEq]
      refine Qa7 (kn.e 0 rfl) (by omega) fun v H3 hv hu => ?_
      have kn := kn.callE 0 rfl hu (R.o_ne _)
      rw [if_neg (by omega)] at hv
      obtain ⟨i, rfl⟩ := Int.eq_ofNat_of_zero_le hv.1
      have hi : i < s.fns.length := by omega
      have hG4 := kn.e 1 rfl
      simp only [go_sem, Qp2, hG4, GS.o, hF.ow, hF.ok kn, hF.len, hF.rows kn, hF.esz, hi, Qfv _ _ hi, Fn.cells, reduceIte, reduceEqDiff, reduceAdd, reduceLeDiff, reduceLT, reduceCtorEq]
      intro x6 hx6 H4 h4
      have kn := kn.al hx6 h4
      have hG5 := kn.e 1 rfl
      have hx64 := kn.l 2 rfl
      simp only [go_sem, Qp1, hG5, hx64, GS.o, hF.ow, hF.ok kn, hF.len, hF.rows kn, hF.esz, hi, Qfv _ _ hi, Fn.cells, reduceIte, reduceEqDiff, reduceAdd, reduceLeDiff, reduceLT, reduceCtorEq]
      have hpar := hs.f _ (List.getElem_mem hi)
      generalize s.fns[i] = f at *
      intro H5 h5
      have kn := kn.stL 2 rfl h5
      have hx65 := kn.l 2 rfl
      refine Qa ?_
      simp only [go_sem, hx65, reduceIte, reduceEqDiff, reduceAdd, reduceLeDiff, reduceLT, reduceCtorEq]
      intro x7 hx7 H6 h6
      have kn := kn.al hx7 h6
      have hx67 := kn.l 2 rfl
      have hx77 := kn.l 3 rfl
      simp only [go_sem, Qp3, hx67, hx77, reduceIte, reduceEqDiff, reduceAdd, reduceLeDiff, reduceLT, reduceCtorEq]
      intro H7 h7
      have kn := kn.stL 3 rfl h7
      refine Q4 ?_
      refine Qa ?_
      simp only [go_sem, reduceIte, reduceEqDiff, reduceAdd, reduceLeDiff, reduceLT, reduceCtorEq]
      refine Qh (Qc (Qu (fun n e1 H1 => ∃ (i k4 : Nat) (kids : List Ex) (c : C) (Lg : List (Nat × Obj)), n = f.params.length - i ∧ i ≤ f.params.length ∧ k4 ≤ k3 + 1 + 21 * i ∧ k3 + 1 + Qae kids ≤ k4 ∧ Qdn kids ∧ kids.length = i ∧
        Gr Lg 4 (Qbj kids) c ∧ Kn H H1 [(R.l, R.o k4), (gl, s.o R)] ([(x4, .st [.int .i64 0, .int .i64 0, .str [], .sl true 4 []]), (x5, .st [.int .i64 e.op, .int .i64 e.n, .str e.name, .sl false 4 (Qbj e.kids)]),
          (x6, .st [.str f.name, .sl false 1 (Qbd f.params), .sl false 5 (Qaz f.body)]), (x7, .st [.int .i64 13, .int .i64 0, .str f.name, c])] ++ Lg) ∧
        e1 = [(0, V.c (C.ptr gl 0)), (4, V.c (C.ptr x4 0)), (6, V.c (C.ptr x6 0)), (7, V.c (C.ptr x7 0)), (8, V.c (C.int IntKind.i64 i))]) f.params.length ?_ ?_))
      · exact ⟨0, k3 + 1, [], _, [], by omega, by omega, by omega, by simp [Qae], trivial, rfl, .nil 4, kn, rfl⟩
      · rintro n e1 H1 ⟨i, k4, kids, c, Lg, hn, hi1, hk4, hksz, hkok, hkl, hgr, kn, rfl⟩
        have hx61 := kn.l 2 rfl
        have hx71 := kn.l 3 rfl
        have hG1 := kn.e 1 rfl
        refine Q4 ?_
        refine Qa ?_
        simp only [go_sem, hx61, Qaq, reduceIte, reduceEqDiff, reduceAdd, reduceLeDiff, reduceLT, reduceCtorEq]
        intro hpl
        refine Qh (Qd rfl ?_ ?_)
        · intro hc
          have hlt : i < f.params.length := by simpa using hc
          refine Qf ?_
          simp only [go_sem]
          refine Qh (Qc (Qbw ?_))
          have hcow := hgr.isOw
          simp only [go_sem, hx71, hG1, GS.o, hcow, reduceIte, reduceEqDiff, reduceAdd, reduceLeDiff, reduceLT, reduceCtorEq]
          refine Qai9 2 2 (by omega) (kn.e 0 rfl) (by omega) fun z H2 k5 g5 g6 hu hok hsz => ?_
          have kn := kn.callE 0 rfl hu (R.o_ne _)
          have hx72 := kn.l 3 rfl
          simp only [go_sem, Qp5, hx72, hcow, z.cells_len, reduceIte, reduceEqDiff, reduceAdd, reduceLeDiff, reduceLT, reduceCtorEq]
          refine kn.grow (new := [z.cells]) hgr (.mk' _ _ _ _) (by simp [z.noOw]) (by simp only [Qa1, List.length_cons, List.length_nil, LIM]; omega) fun y' H3 kn => ?_
          have hx73 := kn.l 3 rfl
          simp only [go_sem, Qp4, hx73, reduceIte, reduceEqDiff, reduceAdd, reduceLeDiff, reduceLT, reduceCtorEq]
          intro H4 h4
          have kn := kn.stL 3 rfl h4
          refine Qq ?_
          simp only [go_sem, reduceIte, reduceEqDiff, reduceAdd, reduceLeDiff, reduceLT, reduceCtorEq]
          refine ⟨Qo (by omega) (by omega), ?_⟩
          refine ⟨f.params.length - (i + 1), by omega, i + 1, k5, kids ++ [z], _, _, rfl, by omega, by omega, ?_, Qa2c hkok ⟨hok, trivial⟩, by simp [hkl], ?_, kn, ?_⟩
          · simp only [Qul, Qae]; omega
          · rw [← Qayz]; exact .mk _ _ _ (by simp)
          · simp
        · intro hc
          have hge : f.params.length ≤ i := by simpa using hc
          refine Qt ?_
          simp only [go_sem, X.next]
          refine Q4 ?_
          refine Qa ?_
          simp only [go_sem, hG1, GS.o, reduceIte, reduceEqDiff, reduceAdd, reduceLeDiff, reduceLT, reduceCtorEq]
          refine Qa7 (kn.e 0 rfl) (by omega) fun v H2 hv hu => ?_
          have kn := kn.callE 0 rfl hu (R.o_ne _)
          have hx72 := kn.l 3 rfl
          have hx42 := kn.l 0 rfl
          have hcow := hgr.isOw
          have hG2 := kn.e 1 rfl
          simp only [go_sem, Ql4, reduceIte, reduceEqDiff, reduceAdd, reduceLeDiff, reduceLT, reduceCtorEq]
          refine Qh (Qd rfl ?_ ?_)
          · intro hc
            refine Qa ?_
            simp only [go_sem, hx72, hx42, hcow, reduceIte, reduceEqDiff, reduceAdd, reduceLeDiff, reduceLT, reduceCtorEq]
            intro H3 h3
            have kn := kn.stL 0 rfl h3
            refine Qj ?_
            simp only [go_sem, Qz]
            refine fin 13 0 f.name c kids H3 (k4 + 1) _ (by omega) (by omega) kn rfl hcow (hgr.frz (B := [_, _, _, _]) kn (Qit _)) ?_ ?_
            · simp only [Ex.ok]; exact ⟨fun h => by simp at h, hkok⟩
            · simp only [Ex.size]; omega
          · intro hc
            refine Qf ?_
            simp only [go_sem]
            refine Qan ?_
            simp only [go_sem, hx72, hG2, hcow, GS.o, reduceIte, reduceEqDiff, reduceAdd, reduceLeDiff, reduceLT, reduceCtorEq]
            refine Qi6 (ns := [3, 4, 8, 10]) (kn.e 0 rfl) (by omega) (by simp) fun op H3 hop hu => ?_
            have kn := kn.callE 0 rfl hu (R.o_ne _)
            have hx73 := kn.l 3 rfl
            have hG3 := kn.e 1 rfl
            simp only [go_sem, Ql6, hx73, hG3, hcow, GS.o, reduceIte, reduceEqDiff, reduceAdd, reduceLeDiff, reduceLT, reduceCtorEq]
            refine Qai9 2 2 (by omega) (kn.e 0 rfl) (by omega) fun z H4 k5 g5 g6 hu hok hsz => ?_
            have kn := kn.callE 0 rfl hu (R.o_ne _)
            have hx74 := kn.l 3 rfl
            have hx44 := kn.l 0 rfl
            simp only [go_sem, Ql5, hx74, hx44, hcow, z.cells_len, reduceIte, reduceEqDiff, reduceAdd, reduceLeDiff, reduceLT, reduceCtorEq]
            intro H5 h5
            have kn := kn.stL 0 rfl h5
            refine Qj ?_
            simp only [go_sem, Qz]
            refine fin op 0 [] _ [Ex.mk 13 0 f.name kids, z] H5 k5 _ (by omega) (by omega) kn rfl rfl ?_ ?_ ?_
            · refine FrzR.sl (.cons ?_ (.cons (.same z.noOw) .nil))
              rw [Ex.cells_eq]
              exact .cons (Qi rfl) (.cons (Qi rfl) (.cons (Qi rfl) (.cons (hgr.frz (B := [_, _, _, _]) kn (Qit _)) .nil)))
            · simp only [Ex.ok, Qdn]; exact ⟨fun h => rfl, ⟨fun h => by simp at h, hkok⟩, hok, trivial⟩
            · simp only [Ex.size, Qae]; omega
  refine ⟨fun hb => ?_, fun hb => ?_⟩
  · refine Qa7 (kn.e 0 rfl) (by omega) fun v H5 hv hu => ?_
    have kn := kn.callE 0 rfl hu (R.o_ne _)
    simp only [go_sem, Qgt, reduceIte, reduceEqDiff, reduceAdd, reduceLeDiff, reduceLT, reduceCtorEq]
    refine rest _ H5 (k2 + 1) (by omega) (by omega) kn ?_
    intro h
    have : ¬ s.fns.length = 0 := by simpa using hb
    omega
  · have hb2 : decide ((s.fns.length : Int) = 0) = true := by simpa using hb
    simp only [go_sem, Qgt, hb2, reduceIte, reduceEqDiff, reduceAdd, reduceLeDiff, reduceLT, reduceCtorEq]
    exact rest true H4 k2 (by omega) (by omega) kn (fun h => by simp at h)
end Go.AE.Y

namespace Go.AE.Y
open Go.Proofs.Tryz
theorem Q0m {R : Rdr} {gl k : Nat} {s : GS} {H : Heap} {K : V → Heap → Prop} (hR : H R.l = R.o k) (hG : H gl = s.o R) (hne : R.l ≠ gl) (hs : s.ok k) (hF : FnsOk H R gl s) (hk : k + 201 ≤ 2^30)
  (hK : ∀ (x : Ex) (H' : Heap) (k' : Nat), k < k' → k' ≤ k + 201 → Upd H H' [(R.l, R.o k')] → x.ok → 2 * k + x.size ≤ 2 * k' → K (.ag x.cells) H') :
  Qp prog Qfi [.c (.ptr gl 0)] H K := by
 refine Q0 ?_
 refine Qb Qat Qam3 ?_
 refine Qa ?_
 simp only [go_sem, reduceIte, reduceEqDiff, reduceAdd, reduceLeDiff, reduceLT, reduceCtorEq]
 intro x2 hx2 H1 h1
 have kn := (Kn.start2 hR (R.o_ne k) hG (s.o_ne R) hne).al hx2 h1
 have hG1 := kn.e 1 rfl
 refine Qan ?_
 simp only [go_sem, hG1, GS.o, reduceIte, reduceEqDiff, reduceAdd, reduceLeDiff, reduceLT, reduceCtorEq]
 refine Qby 2 (by omega) (kn.e 0 rfl) (kn.e 1 rfl) hne hs (hF.keep kn rfl rfl) (by omega) fun e H2 k2 g1 g2 hu heok hesz => ?_
 have kn := kn.callE 0 rfl hu (R.o_ne _)
 have hG2 := kn.e 1 rfl
 simp only [go_sem, Qpx, hG2, GS.o, reduceIte, reduceEqDiff, reduceAdd, reduceLeDiff, reduceLT, reduceCtorEq]
 refine Qi6 (ns := [16, 16, 16, 8, 17, 0]) (kn.e 0 rfl) (by omega) (by simp) fun v H3 hv hu => ?_
 have kn := kn.callE 0 rfl hu (R.o_ne _)
 have hx23 := kn.l 0 rfl
 simp only [go_sem, Qpw, hx23, e.cells_len, reduceIte, reduceEqDiff, reduceAdd, reduceLeDiff, reduceLT, reduceCtorEq]
 intro H4 h4
 have kn := kn.stL 0 rfl h4
 have hx24 := kn.l 0 rfl
 refine Qj ?_
 simp only [go_sem, Qz, Qac, Q0p, reduceIte, List.mem_singleton, forall_eq, RS.op, hx24, reduceIte, reduceEqDiff, reduceAdd, reduceLeDiff, reduceLT, reduceCtorEq]
 refine ⟨(.ag (Ex.mk 7 0 [] [e, Ex.mk 1 v [] []]).cells), ?_, hK _ _ (k2 + 1) (by omega) (by omega) (kn.fin.drop2 hG) ?_ ?_⟩
 ·rw [Ex.cells_eq (Ex.mk 7 0 [] _)]
  refine FrzL.ag ?_
  refine .cons (Qi rfl) (.cons (Qi rfl) (.cons (Qi rfl) (.cons (FrzR.sl (.cons (.same e.noOw) (.cons ?_ .nil))) .nil)))
  simp only [Ex.cells, Qbj]
  exact .cons (Qi rfl) (.cons (Qi rfl) (.cons (Qi rfl) (.cons (FrzR.nil).sl .nil)))
 ·simp only [Ex.ok, Qdn]; exact ⟨fun h => rfl, heok, ⟨fun h => by simp at h, trivial⟩, trivial⟩
 ·simp only [Ex.size, Qae]; omega
def Qa9e (d : Nat) : Prop := ∀ (R : Rdr) (gl k : Nat) (s : GS) (H : Heap) (K : V → Heap → Prop) (deep : Int), deep ≤ d → H R.l = R.o k → H gl = s.o R → R.l ≠ gl → s.ok k → FnsOk H R gl s → k + 500 * 10^d ≤ 2^30 →
  (∀ (l : List St) (s' : GS) (H' : Heap) (k' : Nat), k < k' → k' ≤ k + 500 * 10^d → Upd H H' [(R.l, R.o k'), (gl, s'.o R)] → s'.ok k' → s.left + 4 * (k : Int) ≤ s'.left + 4 * (k' : Int) → s'.fns = s.fns → s'.ffl = s.ffl → l.length ≤ 2 → Qco l → 4 * k + Qw l ≤ 4 * k' → K (.c (.sl false 5 (Qaz l))) H') →
  Qp prog Qkl [.c (.ptr gl 0), .c (.int .i64 deep)] H K
def Q48 (d : Nat) : Prop := ∀ (R : Rdr) (gl k : Nat) (s : GS) (H : Heap) (K : V → Heap → Prop) (deep : Int), deep ≤ d → H R.l = R.o k → H gl = s.o R → R.l ≠ gl → s.ok k → FnsOk H R gl s → k + 2001 * 10^d ≤ 2^30 →
  (∀ (l : List St) (c : C) (Lg : List (Nat × Obj)) (s' : GS) (H' : Heap) (k' : Nat), k < k' → k' ≤ k + 2001 * 10^d → Upd H H' [(R.l, R.o k'), (gl, s'.o R)] → Gr Lg 5 (Qaz l) c → New H H' Lg → s'.ok k' → s.left + 4 * (k : Int) ≤ s'.left + 4 * (k' : Int) → s'.fns = s.fns → s'.ffl = s.ffl →
   l.length ≤ 8 → Qco l → 4 * k + Qw l ≤ 4 * k' → K (.c c) H') →
  Qp prog Qb7 [.c (.ptr gl 0), .c (.int .i64 deep)] H K
theorem Qaxk {d : Nat} (hS : Qa9e d) : Q48 d := by
 intro R gl k s H K deep hd hR hG hne hs hF hk hK
 have hp0 : d < 10^d := Nat.lt_pow_self (by omega)
 generalize hpe : 10^d = e at *
 have hS' := hS
 simp only [Qa9e] at hS'
 rw [hpe] at hS'
 generalize hM : 500 * e = M at *
 refine Qew ?_
 refine Qb Qat Qajm ?_
 refine Qa ?_
 simp only [go_sem, reduceIte, reduceEqDiff, reduceAdd, reduceLeDiff, reduceLT, reduceCtorEq]
 refine Qa ?_
 simp only [go_sem, hG, GS.o, reduceIte, reduceEqDiff, reduceAdd, reduceLeDiff, reduceLT, reduceCtorEq]
 refine Qa ?_
 simp only [go_sem, reduceIte, reduceEqDiff, reduceAdd, reduceLeDiff, reduceLT, reduceCtorEq]
 refine Q4 ?_
 refine Qa ?_
 simp only [go_sem, hG, GS.o, reduceIte, reduceEqDiff, reduceAdd, reduceLeDiff, reduceLT, reduceCtorEq]
 have kn := Kn.start2 hR (R.o_ne k) hG (s.o_ne R) hne
 refine Qi6 (ns := [2, 3, 1, 4]) hR (by omega) (by simp) fun v H1 hv hu => ?_
 have kn := kn.callE 0 rfl hu (R.o_ne _)
 simp only [go_sem, Ql1, reduceIte, reduceEqDiff, reduceAdd, reduceLeDiff, reduceLT, reduceCtorEq]
 have hv4 : 1 ≤ v ∧ v ≤ 4 := by simp at hv; omega
 refine Qh (Qc (Qu (fun n e1 H1 => ∃ (j k4 : Nat) (l : List St) (c : C) (Lg : List (Nat × Obj)) (s' : GS), n = v.toNat - j ∧ (j : Int) ≤ v ∧ k + 1 ≤ k4 ∧ k4 ≤ k + 1 + M * j ∧ 4 * k + Qw l ≤ 4 * k4 ∧ Qco l ∧ l.length ≤ 2 * j ∧
    Gr Lg 5 (Qaz l) c ∧ s'.ok k4 ∧ s.left + 4 * (k : Int) ≤ s'.left + 4 * (k4 : Int) ∧ s'.fns = s.fns ∧ s'.ffl = s.ffl ∧ Kn H H1 [(R.l, R.o k4), (gl, s'.o R)] ([] ++ Lg) ∧
    e1 = [(0, V.c (C.ptr gl 0)), (1, .c (.int .i64 deep)), (5, .c (.sl s.vfl 1 (Qbd s.vars))), (6, .c c), (7, V.c (C.int IntKind.i64 (v - j)))]) v.toNat ?_ ?_))
 ·exact ⟨0, k + 1, [], _, [], s, by omega, by omega, by omega, by omega, by simp only [Qw]; omega, trivial, by simp, .nil 5, hs.mono (by omega), by omega, rfl, rfl, kn, by simp⟩
 ·rintro n e1 H1 ⟨j, k4, l, c, Lg, s', hn, hj, hk4, hk4', hsz, hok, hll, hgr, hs', hlf, hf1, hf2, kn, rfl⟩
  have hG1 := kn.e 1 rfl
  have hMj : M * j ≤ M * 4 := Nat.mul_le_mul_left _ (by omega)
  refine Q4 ?_
  refine Qa ?_
  simp only [go_sem, hG1, GS.o, reduceIte, reduceEqDiff, reduceAdd, reduceLeDiff, reduceLT, reduceCtorEq]
  refine Qh (Qd rfl ?_ ?_)
  ·intro hc
   have hi : (j : Int) < v := by
    cases h : decide (0 < v - (j : Int)) with
    | true => have : 0 < v - (j : Int) := by simpa using h
              omega
    | false => rw [h] at hc; simp at hc
   have hM1 : M * (j + 1) = M * j + M := Nat.mul_succ _ _
   have hM2 : M * (j + 1) ≤ M * 4 := Nat.mul_le_mul_left _ (by omega)
   refine Qf ?_
   simp only [go_sem]
   refine Qh (Qc (Qq ?_))
   simp only [go_sem, reduceIte, reduceEqDiff, reduceAdd, reduceLeDiff, reduceLT, reduceCtorEq]
   refine hS' _ _ _ _ _ _ deep hd (kn.e 0 rfl) (kn.e 1 rfl) hne hs' (hF.keep kn hf1 hf2) (by omega) fun l2 s2 H2 k5 g1 g2 hu g3 glf g4 g5 g6 g7 g8 => ?_
   have kn := kn.callEE 0 1 rfl rfl (by decide) hu (R.o_ne _) (GS.o_ne _ _)
   simp only [go_sem, Ql3, reduceIte, reduceEqDiff, reduceAdd, reduceLeDiff, reduceLT, reduceCtorEq]
   refine kn.grow hgr (.mk' _ _ _ (Qaz l2)) (Qfy _) (by simp only [Qa5, LIM]; omega) fun y' H3 kn => ?_
   simp only [go_sem, Ql2, reduceIte, reduceEqDiff, reduceAdd, reduceLeDiff, reduceLT, reduceCtorEq]
   refine Qq ?_
   simp only [go_sem, reduceIte, reduceEqDiff, reduceAdd, reduceLeDiff, reduceLT, reduceCtorEq]
   refine ⟨Qo (by omega) (by omega), ?_⟩
   simp only [X.next]
   refine ⟨v.toNat - (j + 1), by omega, j + 1, k5, l ++ l2, .vsl y' 5 0 ((Qaz l).length + (Qaz l2).length), _, s2, rfl, by omega, by omega, by omega, ?_, Qacx hok g7, by simp; omega, ?_, g3, by omega, g4.trans hf1, g5.trans hf2, kn, ?_⟩
   ·rw [Qg5]; omega
   ·rw [Qacw]; exact .mk _ _ _ (by simp [Qa5])
   ·have : v - ((j + 1 : Nat) : Int) = v - j - 1 := by omega
    rw [this]
  ·intro hc
   refine Qt ?_
   simp only [go_sem, X.next]
   refine Qa ?_
   simp only [go_sem, hG1, GS.o, reduceIte, reduceEqDiff, reduceAdd, reduceLeDiff, reduceLT, reduceCtorEq]
   intro H2 h2
   have kn : Kn H H2 [(R.l, R.o k4), (gl, GS.o { s' with vars := s.vars, vfl := s.vfl } R)] ([] ++ Lg) := kn.stE 1 rfl h2
   refine Qa ?_
   simp only [go_sem, reduceIte, reduceEqDiff, reduceAdd, reduceLeDiff, reduceLT, reduceCtorEq]
   refine Qj ?_
   simp only [go_sem, Qz, Qac, Qwj, reduceIte, List.mem_singleton, forall_eq, RS.op, reduceIte, reduceEqDiff, reduceAdd, reduceLeDiff, reduceLT, reduceCtorEq]
   refine ⟨unx H Lg, _, H2.frz (unx H Lg), .c _ _ (.same _ hgr.isOw), Qdq _ _, ?_⟩
   refine hK l c Lg _ _ k4 (by omega) (by omega) kn.finx.1 hgr kn.finx.2 ⟨hs'.n0, hs'.n1, hs'.l0, hs'.l1, ?_, hs'.f, hs'.fn⟩ (by show _ ≤ s'.left + _; omega) hf1 hf2 (by omega) hok hsz
   have := hs.v
   show s.vars.length ≤ _
   omega
end Go.AE.Y

attribute [go_sem_proc] reduceIte reduceEqDiff reduceAdd reduceLeDiff reduceLT reduceCtorEq
namespace Go.AE.Y
open Go.Proofs.Tryz
def Qa9c (d : Nat) : Prop := ∀ (R : Rdr) (gl k : Nat) (s : GS) (H : Heap) (K : V → Heap → Prop) (deep : Int), deep ≤ d + 1 → 2 ≤ deep → H R.l = R.o k → H gl = s.o R → R.l ≠ gl → s.ok k → FnsOk H R gl s → k + 2001 * 10^d + 10 ≤ 2^30 →
  (∀ (l : List St) (s' : GS) (H' : Heap) (k' : Nat), k + 2 < k' → k' ≤ k + 2001 * 10^d + 3 → Upd H H' [(R.l, R.o k'), (gl, s'.o R)] → s'.ok k' → s.left + 4 * (k : Int) ≤ s'.left + 4 * (k' : Int) → s'.fns = s.fns → s'.ffl = s.ffl → l.length ≤ 2 → Qco l → 4 * k + Qw l ≤ 4 * k' → K (.c (.sl false 5 (Qaz l))) H') →
  Qp prog Qkk [.c (.ptr gl 0), .c (.int .i64 deep)] H K
theorem Qbak {d : Nat} (hB : Q48 d) : Qa9c d := by
 intro R gl k s H K deep hd hd2 hR hG hne hs hF hk hK
 have hp0 : d < 10^d := Nat.lt_pow_self (by omega)
 have hB' := hB
 simp only [Q48] at hB'
 generalize hpe : 10^d = e at *
 refine Q0 ?_
 refine Qb Qat Qam5 ?_
 refine Qa ?_
 simp only [go_sem]
 refine Qa ?_
 simp only [go_sem, hG, GS.o]
 have kn := Kn.start2 hR (R.o_ne k) hG (s.o_ne R) hne
 refine Qi6 (ns := [2, 3, 1, 0, 5]) hR (by omega) (by simp) fun v H1 hv hu => ?_
 have kn := kn.callE 0 rfl hu (R.o_ne _)
 simp only [go_sem, Qp9]
 refine Q51 (x := Ex.mk 1 v [] []) (fl := true) (kn.e 0 rfl) (kn.e 1 rfl) hne (hs.mono (Nat.le_succ k)) (by omega) fun name H2 k2 g1 g2 hu => ?_
 have kn := kn.callEE 0 1 rfl rfl (by decide) hu (R.o_ne _) (GS.o_ne _ _)
 simp only [go_sem, Qp8]
 intro x5 hx5 H3 h3
 have kn := kn.al hx5 h3
 have hx53 := kn.l 0 rfl
 simp only [go_sem, Qp7, hx53, St.cells_len, St.cells]
 intro H4 h4
 have kn := kn.stL 0 rfl h4
 have hx54 := kn.l 0 rfl
 refine Qa ?_
 simp only [go_sem, hx54]
 intro x6 hx6 H5 h5
 have kn := kn.al hx6 h5
 have hx65 := kn.l 1 rfl
 simp only [go_sem, Qqa, hx65]
 intro H6 h6
 have kn := kn.stL 1 rfl h6
 refine Qa ?_
 simp only [go_sem]
 refine ⟨Qo (by omega) (by omega), ?_⟩
 have hs2 : GS.ok { s with next := s.next + 1, vars := s.vars ++ [name], vfl := false } k2 := by
  refine ⟨?_, ?_, ?_, hs.l1, ?_, hs.f, hs.fn⟩
  ·have := hs.n0; show -1 ≤ s.next + 1; omega
  ·have := hs.n1; show s.next + 1 ≤ _; omega
  ·have := hs.l0; show _ ≤ s.left; omega
  ·have := hs.v; show (s.vars ++ [name]).length ≤ _; simp; omega
 refine hB' _ _ _ _ _ _ (deep - 1) (by omega) (kn.e 0 rfl) (kn.e 1 rfl) hne hs2 (hF.keep kn rfl rfl) (by omega) fun l c Lg s3 H7 k3 g3 g4 hu hgr hnew hs3 glf g5 g6 g7 g8 g9 => ?_
 have kn0 := kn
 have kn := kn.callEE 0 1 rfl rfl (by decide) hu (R.o_ne _) (GS.o_ne _ _)
 have kn := kn0.addGr kn rfl rfl hgr hnew
 have hx57 := kn.l 0 rfl
 have hx67 := kn.l 1 rfl
 simp only [go_sem, Qqb]
 refine Qa ?_
 simp only [go_sem, hx57, hx67]
 intro x8 hx8 H8 h8
 have kn := kn.al hx8 h8
 have kn := kn.perm (L' := [(x5, _), (x6, _), (x8, _)] ++ Lg) (by
  simp only [List.set, List.nil_append, List.cons_append, List.append_assoc]
  refine .cons _ (.cons _ ?_)
  exact List.perm_append_comm)
 have hx88 := kn.l 2 rfl
 simp only [go_sem, Qqc, hx88]
 intro H9 h9
 have kn := kn.stL 2 rfl h9
 have hG9 := kn.e 1 rfl
 refine Qa ?_
 simp only [go_sem, hG9, GS.o]
 have hl0 := hs3.l0
 have hl1 := hs3.l1
 refine ⟨Qo (by omega) (by omega), fun H10 h10 => ?_⟩
 have kn : Kn H H10 [(R.l, R.o k3), (gl, GS.o { s3 with left := s3.left - 2 } R)] ([(x5, _), (x6, _), (x8, _)] ++ Lg) := kn.stE 1 rfl h10
 have hx5a := kn.l 0 rfl
 have hx6a := kn.l 1 rfl
 have hx8a := kn.l 2 rfl
 refine Qan ?_
 simp only [go_sem, hx5a, hx6a, hx8a]
 refine kn.grow hgr (.mk' _ _ _ _) (by intro r hr; simp only [List.mem_singleton] at hr; subst hr; rfl) (by simp only [Qa5, LIM, List.length_cons, List.length_nil]; omega) fun y' H11 kn => ?_
 have hx5b := kn.l 0 rfl
 have hx6b := kn.l 1 rfl
 have hyb := kn.l 3 rfl
 simp only [go_sem, Qqd, hx5b, hx6b]
 refine Qj ?_
 simp only [go_sem, Qz, Qac, Q0q, reduceIte, List.mem_singleton, forall_eq, RS.op]
 have hok1 : GS.ok { s3 with left := s3.left - 2 } k3 := ⟨hs3.n0, hs3.n1, by show _ ≤ s3.left - 2; have := hs.l0; simp only at glf; omega, by show s3.left - 2 ≤ 100; omega, hs3.v, hs3.f, hs3.fn⟩
 refine ⟨.c (.sl false 5 (Qaz [St.mk 1 name [Ex.mk 1 v [] []] [] [], St.mk 6 [] [Ex.mk 2 0 name []] (l ++ [St.mk 2 name [Ex.mk 4 0 [] [Ex.mk 2 0 name [], Ex.mk 1 1 [] []]] [] []]) []])), .c _ _ ?_, hK _ _ _ k3 (by omega) (by omega) kn.fin hok1 (by show _ ≤ s3.left - 2 + _; simp only at glf; omega) g5 g6 (by simp) ?_ ?_⟩
 ·simp only [Qaz, St.cells, Qbj, Ex.cells, ← Qacw]
  repeat' first | exact FrzL.nil | exact FrzR.nil | exact Qi rfl | exact FrzL.same (Ex.noOw _) | exact FrzL.same (St.noOw _) | refine FrzL.cons ?_ ?_ | refine FrzR.cons ?_ ?_ | refine FrzR.sl ?_
  refine FrzR.vsl (kn.un 3 rfl) hyb (by simp) (.app (.same (Qfy _)) ?_)
  repeat' first | exact FrzL.nil | exact FrzR.nil | exact Qi rfl | exact FrzL.same (Ex.noOw _) | exact FrzL.same (St.noOw _) | refine FrzL.cons ?_ ?_ | refine FrzR.cons ?_ ?_ | refine FrzR.sl ?_
 ·simp only [Qco, St.ok, Qdn, Ex.ok]
  refine ⟨⟨by simp, ⟨⟨fun h => by simp at h, trivial⟩, trivial⟩, trivial, trivial⟩, ⟨by simp, ⟨⟨fun h => by simp at h, trivial⟩, trivial⟩, Qacx g8 ?_, trivial⟩, trivial⟩
  simp [Qco, St.ok, Qdn, Ex.ok]
 ·simp only [Qw, St.size, Qg5, Qae, Ex.size]; omega
end Go.AE.Y

namespace Go.AE.Y
open Go.Proofs.Tryz
theorem Qbck {A L1 L2 : List (Nat × Obj)} : (A ++ L1 ++ L2).Perm (A ++ L2 ++ L1) := by
 rw [List.append_assoc, List.append_assoc]
 exact .append_left _ List.perm_append_comm
set_option maxHeartbeats 2000000 in
theorem Qa5k {d : Nat} (hB : ∀ d', d = d' + 1 → Q48 d') : Qa9e d := by
  intro R gl k s H K deep hd hR hG hne hs hF hk hK
  have hp0 : d < 10^d := Nat.lt_pow_self (by omega)
  have hex : ∃ e, 10^d = e ∧ ∀ d', d = d' + 1 → 10 * 10^d' = e := ⟨10^d, rfl, fun d' h => by rw [h, Nat.pow_succ]; omega⟩
  obtain ⟨e, hpe, he'⟩ := hex
  rw [hpe] at hp0 hk hK
  have hl0 := hs.l0
  have hl1 := hs.l1
  refine Q0 ?_
  refine Qb Qat Qam6 ?_
  refine Qa ?_
  simp only [go_sem]
  refine Qa ?_
  simp only [go_sem, hG, GS.o]
  refine ⟨Qo (by omega) (by omega), fun H1 h1 => ?_⟩
  have kn : Kn H H1 [(R.l, R.o k), (gl, GS.o { s with left := s.left - 1 } R)] [] := (Kn.start2 hR (R.o_ne k) hG (s.o_ne R) hne).stE 1 rfl h1
  have hs1 : GS.ok { s with left := s.left - 1 } (k + 1) := ⟨hs.n0, by have := hs.n1; show s.next ≤ _; omega, by show _ ≤ s.left - 1; omega, by show s.left - 1 ≤ 100; omega, by have := hs.v; show s.vars.length ≤ _; omega, hs.f, hs.fn⟩
  have hlr : s.left ≤ ({ s with left := s.left - 1 } : GS).left + 1 := by show s.left ≤ s.left - 1 + 1; omega
  have hfn : ({ s with left := s.left - 1 } : GS).fns = s.fns := rfl
  have hff : ({ s with left := s.left - 1 } : GS).ffl = s.ffl := rfl
  have hF1 : FnsOk H R gl { s with left := s.left - 1 } := ⟨hF.1, hF.2⟩
  generalize ({ s with left := s.left - 1 } : GS) = s1 at *
  have hG1 := kn.e 1 rfl
  refine Qa ?_
  simp only [go_sem, hG1, GS.o]
  refine Qa7 (kn.e 0 rfl) (by omega) fun v H2 hv hu => ?_
  have kn : Kn H H2 [(R.l, R.o (k + 1)), (gl, s1.o R)] [] := kn.callE 0 rfl hu (R.o_ne _)
  have hG2 := kn.e 1 rfl
  simp only [go_sem, Qqg]
  have fin : ∀ (l : List St) (c : C) (s' : GS) (H3 : Heap) (k3 : Nat) (L : List (Nat × Obj)), k < k3 → k3 ≤ k + 500 * e → Kn H H3 [(R.l, R.o k3), (gl, s'.o R)] L → FrzC H3 (un H) c (.sl false 5 (Qaz l)) →
      s'.ok k3 → s1.left + 4 * ((k + 1 : Nat) : Int) ≤ s'.left + 4 * (k3 : Int) → s'.fns = s1.fns → s'.ffl = s1.ffl → l.length ≤ 2 → Qco l → 4 * k + Qw l ≤ 4 * k3 → ∃ x', FrzV H3 (un H) (.c c) x' ∧ K x' (H3.frz (un H)) := by
    intro l c s' H3 k3 L g1 g2 kn g3 g4 g5 g6 g7 g8 g9 g10
    exact ⟨_, .c _ _ g3, hK l s' _ k3 g1 g2 kn.fin g4 (by omega) (g6.trans hfn) (g7.trans hff) g8 g9 g10⟩
  refine Qh (Qc ?_)
  refine Qa ?_
  simp only [go_sem, hG2, GS.o, Qaq]
  intro hvl
  refine Qd rfl ?_ ?_
  ·
    intro hc
    have hv0 : 0 < s1.vars.length := by
      cases h : decide (v < 3) with
      | true => rw [h] at hc; simp at hc; omega
      | false => rw [h] at hc; simp at hc
    refine Qan ?_
    simp only [go_sem, hG2, GS.o]
    refine of_c (kn.e 0 rfl) (by omega) hv0 fun name H3 hn hu => ?_
    have kn := kn.callE 0 rfl hu (R.o_ne _)
    simp only [go_sem, Qqi]
    refine Qby 3 (by omega) (kn.e 0 rfl) (kn.e 1 rfl) hne (hs1.mono (by omega)) (hF1.keep kn rfl rfl) (by omega) fun x H4 k4 g1 g2 hu g3 g4 => ?_
    have kn := kn.callE 0 rfl hu (R.o_ne _)
    simp only [go_sem, Qqh, x.cells_len]
    refine Qj ?_
    simp only [go_sem, Qz, Qac, Qa8, reduceIte, List.mem_singleton, forall_eq, RS.op]
    refine fin [St.mk 2 name [x] [] []] _ s1 H4 k4 _ (by omega) (by omega) kn ?_ (hs1.mono (by omega)) (by omega) rfl rfl (by simp) ?_ ?_
    · simp only [Qaz, St.cells, Qbj]
      repeat' first | exact FrzL.nil | exact FrzR.nil | exact Qi rfl | exact FrzL.same (Ex.noOw _) | exact FrzL.same (St.noOw _) | refine FrzL.cons ?_ ?_ | refine FrzR.cons ?_ ?_ | refine FrzR.sl ?_
    · simp only [Qco, St.ok, Qdn]; exact ⟨⟨by simp, ⟨g3, trivial⟩, trivial, trivial⟩, trivial⟩
    · simp only [Qw, St.size, Qae]; omega
  intro hc0
  refine Qa ?_
  simp only [go_sem]
  refine Qd rfl ?_ ?_
  ·
    intro hc
    refine Qa ?_
    simp only [go_sem]
    refine Qby 3 (by omega) (kn.e 0 rfl) (kn.e 1 rfl) hne (hs1.mono (by omega)) (hF1.keep kn rfl rfl) (by omega) fun x H4 k4 g1 g2 hu g3 g4 => ?_
    have kn := kn.callE 0 rfl hu (R.o_ne _)
    simp only [go_sem, Qqk, x.cells_eq]
    refine Q51 (x := x) (kn.e 0 rfl) (kn.e 1 rfl) hne (hs1.mono (by omega)) (by omega) fun name H5 k5 g5 g6 hu => ?_
    have kn := kn.callEE 0 1 rfl rfl (by decide) hu (R.o_ne _) (GS.o_ne _ _)
    simp only [go_sem, Qqj, St.cells_len]
    refine Qj ?_
    simp only [go_sem, Qz, Qac, Qa8, reduceIte, List.mem_singleton, forall_eq, RS.op]
    have h0 := hs1.n0
    have h1 := hs1.n1
    have h2 := hs1.l0
    have h3 := hs1.v
    refine fin [St.mk 1 name [x] [] []] _ _ H5 k5 _ (by omega) (by omega) kn ?_ ⟨?_, ?_, ?_, hs1.l1, ?_, hs1.f, hs1.fn⟩ (by show _ ≤ s1.left + _; omega) rfl rfl (by simp) ?_ ?_
    · simp only [Qaz]
      repeat' first | exact FrzL.nil | exact FrzR.nil | exact Qi rfl | exact FrzL.same (Ex.noOw _) | exact FrzL.same (St.noOw _) | refine FrzL.cons ?_ ?_ | refine FrzR.cons ?_ ?_ | refine FrzR.sl ?_
    · show -1 ≤ s1.next + 1; omega
    · show s1.next + 1 ≤ _; omega
    · show _ ≤ s1.left; omega
    · show (s1.vars ++ [name]).length ≤ _; simp; omega
    · simp only [Qco, St.ok, Qdn]; exact ⟨⟨by simp, ⟨g3, trivial⟩, trivial, trivial⟩, trivial⟩
    · simp only [Qw, St.size, Qae]; omega
  intro hc1
  refine Qa ?_
  simp only [go_sem]
  refine Qd rfl ?_ ?_
  ·
    intro hc
    refine Qa ?_
    simp only [go_sem]
    refine Qby 3 (by omega) (kn.e 0 rfl) (kn.e 1 rfl) hne (hs1.mono (by omega)) (hF1.keep kn rfl rfl) (by omega) fun x H4 k4 g1 g2 hu g3 g4 => ?_
    have kn := kn.callE 0 rfl hu (R.o_ne _)
    simp only [go_sem, Qql, x.cells_len]
    refine Qj ?_
    simp only [go_sem, Qz, Qac, Qa8, reduceIte, List.mem_singleton, forall_eq, RS.op]
    refine fin [St.mk 3 [] [x] [] []] _ s1 H4 k4 _ (by omega) (by omega) kn ?_ (hs1.mono (by omega)) (by omega) rfl rfl (by simp) ?_ ?_
    · simp only [Qaz, St.cells, Qbj]
      repeat' first | exact FrzL.nil | exact FrzR.nil | exact Qi rfl | exact FrzL.same (Ex.noOw _) | exact FrzL.same (St.noOw _) | refine FrzL.cons ?_ ?_ | refine FrzR.cons ?_ ?_ | refine FrzR.sl ?_
    · simp only [Qco, St.ok, Qdn]; exact ⟨⟨by simp, ⟨g3, trivial⟩, trivial, trivial⟩, trivial⟩
    · simp only [Qw, St.size, Qae]; omega
  intro hc2
  have hdp : 2 ≤ deep := by
    cases h : decide (v < 7) with
    | true => rw [h] at hc2; simp at hc2
    | false => rw [h] at hc2; simp at hc2; omega
  obtain ⟨d', hdd⟩ : ∃ d', d = d' + 1 := ⟨d - 1, by omega⟩
  have hB0 : Q48 d' := hB d' hdd
  have hL0 : Qa9c d' := Qbak hB0
  have hB' := hB0
  have hL' := hL0
  simp only [Q48, Qa9c] at hB' hL'
  have he1 := he' d' hdd
  have hp1 : d' < 10^d' := Nat.lt_pow_self (by omega)
  generalize 10^d' = e1 at *
  refine Qa ?_
  simp only [go_sem]
  refine Qd rfl ?_ ?_
  ·
    intro hc
    refine Qa ?_
    simp only [go_sem]
    refine Q0m (kn.e 0 rfl) (kn.e 1 rfl) hne (hs1.mono (by omega)) (hF1.keep kn rfl rfl) (by omega) fun x H4 k4 g1 g2 hu g3 g4 => ?_
    have kn := kn.callE 0 rfl hu (R.o_ne _)
    simp only [go_sem, Qqn, x.cells_len]
    refine Qby 2 (by omega) (kn.e 0 rfl) (kn.e 1 rfl) hne (hs1.mono (by omega)) (hF1.keep kn rfl rfl) (by omega) fun y H5 k5 g5 g6 hu g7 g8 => ?_
    have kn := kn.callE 0 rfl hu (R.o_ne _)
    simp only [go_sem, Qqm, x.cells_len, y.cells_len]
    refine Qj ?_
    simp only [go_sem, Qz, Qac, Qa8, reduceIte, List.mem_singleton, forall_eq, RS.op]
    refine fin [St.mk 4 [] [x, y] [] []] _ s1 H5 k5 _ (by omega) (by omega) kn ?_ (hs1.mono (by omega)) (by omega) rfl rfl (by simp) ?_ ?_
    · simp only [Qaz, St.cells, Qbj]
      repeat' first | exact FrzL.nil | exact FrzR.nil | exact Qi rfl | exact FrzL.same (Ex.noOw _) | exact FrzL.same (St.noOw _) | refine FrzL.cons ?_ ?_ | refine FrzR.cons ?_ ?_ | refine FrzR.sl ?_
    · simp only [Qco, St.ok, Qdn]; exact ⟨⟨by simp, ⟨g3, g7, trivial⟩, trivial, trivial⟩, trivial⟩
    · simp only [Qw, St.size, Qae]; omega
  intro hc3
  refine Qa ?_
  simp only [go_sem]
  refine Qd rfl ?_ ?_
  ·
    intro hc
    refine Qa ?_
    simp only [go_sem]
    refine Q0m (kn.e 0 rfl) (kn.e 1 rfl) hne (hs1.mono (by omega)) (hF1.keep kn rfl rfl) (by omega) fun x H4 k4 g1 g2 hu g3 g4 => ?_
    have kn := kn.callE 0 rfl hu (R.o_ne _)
    simp only [go_sem, Qqo, x.cells_len]
    refine Qj ?_
    simp only [go_sem, Qz, Qac, Qa8, reduceIte, List.mem_singleton, forall_eq, RS.op]
    refine fin [St.mk 3 [] [Ex.mk 12 0 [] [x]] [] []] _ s1 H4 k4 _ (by omega) (by omega) kn ?_ (hs1.mono (by omega)) (by omega) rfl rfl (by simp) ?_ ?_
    · rw [Qaz, Qaz, St.cells, Qbj, Qbj, Ex.cells_eq (Ex.mk 12 0 [] _)]
      simp only [Qaz, Qbj, Ex.kids, Ex.op, Ex.n, Ex.name]
      repeat' first | exact FrzL.nil | exact FrzR.nil | exact Qi rfl | exact FrzL.same (Ex.noOw _) | exact FrzL.same (St.noOw _) | refine FrzL.cons ?_ ?_ | refine FrzR.cons ?_ ?_ | refine FrzR.sl ?_
    · simp only [Qco, St.ok, Qdn, Ex.ok]; exact ⟨⟨by simp, ⟨⟨fun h => by simp at h, g3, trivial⟩, trivial⟩, trivial, trivial⟩, trivial⟩
    · simp only [Qw, St.size, Qae, Ex.size]; omega
  intro hc4
  refine Qa ?_
  simp only [go_sem]
  refine Qd rfl ?_ ?_
  ·
    intro hc
    refine Qa ?_
    simp only [go_sem]
    refine Qby 3 (by omega) (kn.e 0 rfl) (kn.e 1 rfl) hne (hs1.mono (by omega)) (hF1.keep kn rfl rfl) (by omega) fun x H4 k4 g1 g2 hu g3 g4 => ?_
    have kn := kn.callE 0 rfl hu (R.o_ne _)
    simp only [go_sem, Qma, x.cells_len]
    refine ⟨Qo (by omega) (by omega), ?_⟩
    refine hB' _ _ _ _ _ _ (deep - 1) (by omega) (kn.e 0 rfl) (kn.e 1 rfl) hne (hs1.mono (by omega)) (hF1.keep kn rfl rfl) (by omega) fun b1 c1 L1 s2 H5 k5 g5 g6 hu hg1 hnew hs2 glf g7 g8 g9 g10 g11 => ?_
    have kn0 := kn
    have kn := kn.callEE 0 1 rfl rfl (by decide) hu (R.o_ne _) (GS.o_ne _ _)
    have kn := kn0.addGr kn rfl rfl hg1 hnew
    have hc1ow := hg1.isOw
    simp only [go_sem, Ql9]
    intro x6 hx6 H6 h6
    have kn := kn.al hx6 h6
    have kn := kn.perm (L' := [(x6, _)] ++ L1) List.perm_append_comm
    have hx66 := kn.l 0 rfl
    simp only [go_sem, Qqp, hx66]
    intro H7 h7
    have kn : Kn H H7 [(R.l, R.o k5), (gl, s2.o R)] ([(x6, _)] ++ L1) := kn.stL 0 rfl h7
    have hG7 := kn.e 1 rfl
    refine Q4 ?_
    refine Qa ?_
    simp only [go_sem, hG7, GS.o]
    refine Qa7 (kn.e 0 rfl) (by omega) fun v2 H8 hv2 hu => ?_
    have kn : Kn H H8 [(R.l, R.o (k5 + 1)), (gl, s2.o R)] ([(x6, _)] ++ L1) := kn.callE 0 rfl hu (R.o_ne _)
    simp only [go_sem, Qmb]
    have rest : ∀ (E1 : Env) (hE : lk 6 E1 = V.c (C.ptr x6 0)) (c2 : C) (b2 : List St) (L2 : List (Nat × Obj)) (s3 : GS) (H9 : Heap) (k6 : Nat), k5 + 1 ≤ k6 → k6 ≤ k5 + 1 + 2001 * e1 → Gr L2 5 (Qaz b2) c2 →
        Kn H H9 [(R.l, R.o k6), (gl, s3.o R)] ([(x6, .st [.int .i64 5, .str [], .sl true 4 [x.cells], c1, c2])] ++ L1 ++ L2) → s3.ok k6 → s2.left + 4 * ((k5 + 1 : Nat) : Int) ≤ s3.left + 4 * (k6 : Int) → s3.fns = s2.fns → s3.ffl = s2.ffl → Qco b2 → 4 * (k5 + 1) + Qw b2 ≤ 4 * k6 →
        Qah prog Qqe (X.inBlock 0 (X.sq prog Qgu (Qz Qa8 fun x H' => ∃ x', FrzV H' (un H) x x' ∧ K x' (H'.frz (un H))))) E1 H9 := by
      intro E1 hE c2 b2 L2 s3 H9 k6 e1 e2 hg2 kn e3 e4 e5 e6 e7 e8
      have hx69 := kn.l 0 rfl
      have hc2ow := hg2.isOw
      refine Qa ?_
      simp only [go_sem, hE, hx69, hc1ow, hc2ow]
      refine Qj ?_
      simp only [go_sem, Qz, Qac, Qa8, reduceIte, List.mem_singleton, forall_eq, RS.op]
      refine fin [St.mk 5 [] [x] b1 b2] _ s3 H9 k6 _ (by omega) (by omega) kn ?_ e3 (by omega) (e5.trans g7) (e6.trans g8) (by simp) ?_ ?_
      · simp only [Qaz, St.cells, Qbj]
        repeat' first | exact FrzL.nil | exact FrzR.nil | exact Qi rfl | exact FrzL.same (Ex.noOw _) | exact FrzL.same (St.noOw _) | refine FrzL.cons ?_ ?_ | refine FrzR.cons ?_ ?_ | refine FrzR.sl ?_
        · exact hg1.frz (kn.perm Qbck) (Qfy _)
        · exact hg2.frz kn (Qfy _)
      · simp only [Qco, St.ok, Qdn]; exact ⟨⟨by simp, ⟨g3, trivial⟩, g10, e7⟩, trivial⟩
      · simp only [Qw, St.size, Qae]; omega
    refine Qh (Qd rfl ?_ ?_)
    · intro hc'
      refine Qq ?_
      simp only [go_sem]
      refine ⟨Qo (by omega) (by omega), ?_⟩
      refine hB' _ _ _ _ _ _ (deep - 1) (by omega) (kn.e 0 rfl) (kn.e 1 rfl) hne (hs2.mono (by omega)) (hF1.keep kn g7 g8) (by omega) fun b2 c2 L2 s3 H9 k6 q1 q2 hu hg2 hnew hs3 q3 q4 q5 q6 q7 q8 => ?_
      have kn0 := kn
      have kn := kn.callEE 0 1 rfl rfl (by decide) hu (R.o_ne _) (GS.o_ne _ _)
      have kn := kn0.addGr kn rfl rfl hg2 hnew
      have hx69 := kn.l 0 rfl
      simp only [go_sem, Qmc, hx69]
      intro H10 h10
      have kn : Kn H H10 [(R.l, R.o k6), (gl, s3.o R)] ([(x6, _)] ++ L1 ++ L2) := kn.stL 0 rfl h10
      exact rest _ (by simp [lk]) c2 b2 L2 s3 H10 k6 (by omega) (by omega) hg2 kn hs3 (by omega) q4 q5 q7 (by omega)
    · intro hc'
      refine Qf ?_
      simp only [go_sem]
      exact rest _ (by simp [lk]) _ [] [] s2 H8 (k5 + 1) (by omega) (by omega) (.nil 5) (by rw [List.append_nil]; exact kn) (hs2.mono (by omega)) (by omega) rfl rfl trivial (by simp only [Qw]; omega)
  · intro hc5
    refine Qa ?_
    simp only [go_sem, hG2, GS.o]
    have rest : ∀ (b : Bool) (H3 : Heap) (k3 : Nat), k + 1 ≤ k3 → k3 ≤ k + 2 → Kn H H3 [(R.l, R.o k3), (gl, s1.o R)] [] →
        Qah prog Qqf (X.inBlock 0 (X.sq prog Qgu (Qz Qa8 fun x H' => ∃ x', FrzV H' (un H) x x' ∧ K x' (H'.frz (un H)))))
         [(0, V.c (C.ptr gl 0)), (1, .c (.int .i64 deep)), (109, .c (.bool b))] H3 := by
      intro b H3 k3 e3 e4 kn
      refine Qd rfl ?_ ?_
      · intro hb
        refine Qa ?_
        simp only [go_sem]
        refine Qby 2 (by omega) (kn.e 0 rfl) (kn.e 1 rfl) hne (hs1.mono (by omega)) (hF1.keep kn rfl rfl) (by omega) fun x H4 k4 g1 g2 hu g3 g4 => ?_
        have kn := kn.callE 0 rfl hu (R.o_ne _)
        simp only [go_sem, Qmd, x.cells_len]
        refine Qj ?_
        simp only [go_sem, Qz, Qac, Qa8, reduceIte, List.mem_singleton, forall_eq, RS.op]
        refine fin [St.mk 7 [] [x] [] []] _ s1 H4 k4 _ (by omega) (by omega) kn ?_ (hs1.mono (by omega)) (by omega) rfl rfl (by simp) ?_ ?_
        · simp only [Qaz, St.cells, Qbj]
          repeat' first | exact FrzL.nil | exact FrzR.nil | exact Qi rfl | exact FrzL.same (Ex.noOw _) | exact FrzL.same (St.noOw _) | refine FrzL.cons ?_ ?_ | refine FrzR.cons ?_ ?_ | refine FrzR.sl ?_
        · simp only [Qco, St.ok, Qdn]; exact ⟨⟨by simp, ⟨g3, trivial⟩, trivial, trivial⟩, trivial⟩
        · simp only [Qw, St.size, Qae]; omega
      · intro hb
        refine Qf ?_
        simp only [go_sem]
        refine Qa ?_
        simp only [go_sem]
        refine hL' _ _ _ _ _ _ deep (by omega) hdp (kn.e 0 rfl) (kn.e 1 rfl) hne (hs1.mono (by omega)) (hF1.keep kn rfl rfl) (by omega) fun l s2 H4 k4 g1 g2 hu g3 g4 g5 g6 g7 g8 g9 => ?_
        have kn := kn.callEE 0 1 rfl rfl (by decide) hu (R.o_ne _) (GS.o_ne _ _)
        simp only [go_sem, Qme]
        refine Qj ?_
        simp only [go_sem, Qz, Qac, Qa8, reduceIte, List.mem_singleton, forall_eq, RS.op]
        exact fin l _ s2 H4 k4 _ (by omega) (by omega) kn (Qi rfl) g3 (by omega) g5 g6 g7 g8 (by omega)
    refine ⟨fun hb => ?_, fun hb => ?_⟩
    · refine Qa7 (kn.e 0 rfl) (by omega) fun v2 H3 hv2 hu => ?_
      have kn := kn.callE 0 rfl hu (R.o_ne _)
      simp only [go_sem, Qe6]
      exact rest _ H3 (k + 1 + 1) (by omega) (by omega) kn
    · simp only [go_sem, Qe6, hb]
      exact rest _ H2 (k + 1) (by omega) (by omega) kn
theorem Qa9m (d : Nat) : Q48 d := by
 induction d with
 | zero => exact Qaxk (Qa5k (fun d' h => absurd h (by omega)))
 | succ d ih => exact Qaxk (Qa5k (fun d' h => by
   have : d' = d := by omega
   rw [this]; exact ih))
end Go.AE.Y

namespace Go.AE.Y
open Go.Proofs.Tryz
set_option maxHeartbeats 1000000 in
theorem Qaht {R : Rdr} {gl k : Nat} {s : GS} {name : List UInt8} {params : Int} {H : Heap} {K : V → Heap → Prop} (hp0 : 0 ≤ params) (hp3 : params ≤ 3) (hR : H R.l = R.o k) (hG : H gl = s.o R) (hne : R.l ≠ gl) (hs : s.ok k) (hF : FnsOk H R gl s) (hk : k + 2001300 ≤ 2^30)
  (hK : ∀ (f : Fn) (s' : GS) (H' : Heap) (k' : Nat), k < k' → k' ≤ k + 2001300 → Upd H H' [(R.l, R.o k'), (gl, s'.o R)] → s'.ok k' → s'.fns = s.fns → s'.ffl = s.ffl → f.params.length ≤ 3 → Qco f.body → 4 * k + Qw f.body ≤ 4 * k' → K (.ag f.cells) H') :
  Qp prog Qkj [.c (.ptr gl 0), .c (.str name), .c (.int .i64 params)] H K := by
 obtain ⟨np, rfl⟩ := Int.eq_ofNat_of_zero_le hp0
 refine Q0 ?_
 refine Qb Qat Qazf ?_
 refine Qa ?_
 simp only [go_sem]
 intro x6 hx6 H1 h1
 have kn := (Kn.start2 hR (R.o_ne k) hG (s.o_ne R) hne).al hx6 h1
 have hG1 := kn.e 1 rfl
 refine Qa ?_
 have etk : List.take np [[C.str [97]], [C.str [98]], [C.str [99]]] = Qbd (List.take np [[97], [98], [99]]) := by simp [Qbd, List.map_take]
 simp only [go_sem, hG1, GS.o, etk]
 refine ⟨⟨by omega, by omega⟩, fun H2 h2 => ?_⟩
 have kn : Kn H H2 [(R.l, R.o k), (gl, GS.o { s with vars := List.take np [[97], [98], [99]], vfl := false } R)] [(x6, _)] := kn.stE 1 rfl h2
 have hG2 := kn.e 1 rfl
 refine Qa ?_
 simp only [go_sem, hG2, GS.o]
 refine ⟨Qo (by omega) (by omega), fun H3 h3 => ?_⟩
 have kn : Kn H H3 [(R.l, R.o k), (gl, GS.o { s with vars := List.take np [[97], [98], [99]], vfl := false, next := (np : Int) - 1 } R)] [(x6, _)] := kn.stE 1 rfl h3
 have hs1 : GS.ok { s with vars := List.take np [[97], [98], [99]], vfl := false, next := (np : Int) - 1 } k :=
  ⟨by show -1 ≤ (np : Int) - 1; omega, by show (np : Int) - 1 ≤ _; omega, hs.l0, hs.l1, by show (List.take np _).length ≤ _; simp; omega, hs.f, hs.fn⟩
 have hvl : (List.take np [[97], [98], [99]] : List (List UInt8)).length ≤ 3 := by simp; omega
 have hfn : GS.fns { s with vars := List.take np [[97], [98], [99]], vfl := false, next := (np : Int) - 1 } = s.fns := rfl
 have hff : GS.ffl { s with vars := List.take np [[97], [98], [99]], vfl := false, next := (np : Int) - 1 } = s.ffl := rfl
 have hvv : GS.vars { s with vars := List.take np [[97], [98], [99]], vfl := false, next := (np : Int) - 1 } = List.take np [[97], [98], [99]] := rfl
 rw [← hvv] at hvl
 have hF1 : FnsOk H R gl { s with vars := List.take np [[97], [98], [99]], vfl := false, next := (np : Int) - 1 } := ⟨hF.1, hF.2⟩
 generalize ({ s with vars := List.take np [[97], [98], [99]], vfl := false, next := (np : Int) - 1 } : GS) = s1 at *
 have hG3 := kn.e 1 rfl
 refine Qa ?_
 have hL : s1.vars.length ≤ LIM := by simp only [LIM]; omega
 simp only [go_sem, hG3, GS.o, Qaq, Nat.zero_add, List.nil_append, hL]
 refine ⟨.inl trivial, Qli _, fun y hy H4 h4 => ?_⟩
 have kn := kn.al hy h4
 simp only [go_sem, Qxp]
 intro x7 hx7 H5 h5
 have kn := kn.al hx7 h5
 have hx75 := kn.l 2 rfl
 simp only [go_sem, Qxo, hx75]
 intro H6 h6
 have kn : Kn H H6 [(R.l, R.o k), (gl, s1.o R)] [(x6, _), (y, _), (x7, _)] := kn.stL 2 rfl h6
 refine Qa ?_
 simp only [go_sem]
 refine Qa9m 3 _ _ _ _ _ _ 3 (by omega) (kn.e 0 rfl) (kn.e 1 rfl) hne hs1 (hF1.keep kn rfl rfl) (by omega) fun l c Lg s2 H7 k2 g1 g2 hu hgr hnew hs2 glf g3 g4 g5 g6 g7 => ?_
 have kn0 := kn
 have kn := kn.callEE 0 1 rfl rfl (by decide) hu (R.o_ne _) (GS.o_ne _ _)
 have kn := kn0.addGr kn rfl rfl hgr hnew
 have hx77 := kn.l 2 rfl
 simp only [go_sem, Qxq, hx77]
 intro H8 h8
 have kn : Kn H H8 [(R.l, R.o k2), (gl, s2.o R)] ([(x6, .st [.str [], .sl true 1 [], .sl true 5 []]), (y, .vec 1 (Qbd s1.vars)), (x7, .st [.str name, .vsl y 1 0 s1.vars.length, c])] ++ Lg) := kn.stL 2 rfl h8
 have hG8 := kn.e 1 rfl
 refine Q4 ?_
 refine Qa ?_
 simp only [go_sem, hG8, GS.o]
 have hcow := hgr.isOw
 have rest : ∀ (E1 : Env) (hE6 : lk 6 E1 = V.c (C.ptr x6 0)) (hE7 : lk 7 E1 = V.c (C.ptr x7 0)) (l2 : List St) (c2 : C) (rws : List (List C)) (L2 : List (Nat × Obj)) (s3 : GS) (H9 : Heap) (k3 : Nat), k < k3 → k3 ≤ k + 2001300 →
   Kn H H9 [(R.l, R.o k3), (gl, s3.o R)] ([(x6, .st [.str [], .sl true 1 [], .sl true 5 []]), (y, .vec 1 (Qbd s1.vars)), (x7, .st [.str name, .vsl y 1 0 s1.vars.length, c2])] ++ L2) → Gr L2 5 rws c2 → (∀ H', FrzR H' (un H) rws (Qaz l2)) →
   s3.ok k3 → s3.fns = s1.fns → s3.ffl = s1.ffl → Qco l2 → 4 * k + Qw l2 ≤ 4 * k3 → Qah prog Qp6 (Qz Qsc fun x H' => ∃ x', FrzV H' (un H) x x' ∧ K x' (H'.frz (un H))) E1 H9 := by
  intro E1 hE6 hE7 l2 c2 rws L2 s3 H9 k3 e1 e2 kn hg2 hfr e3 e4 e5 e6 e7
  have hx69 := kn.l 0 rfl
  have hx79 := kn.l 2 rfl
  have hcow := hg2.isOw
  refine Qa ?_
  simp only [go_sem, hE6, hE7, hx69, hx79, hcow]
  intro H10 h10
  have kn := kn.stL 0 rfl h10
  have hx6a := kn.l 0 rfl
  have hya := kn.l 1 rfl
  refine Qj ?_
  simp only [go_sem, Qz, Qac, Qsc, reduceIte, List.mem_singleton, forall_eq, RS.op, hx6a, hcow]
  refine ⟨(.ag (Fn.mk name s1.vars l2).cells), ?_, hK _ s3 _ k3 e1 e2 kn.fin e3 (e4.trans hfn) (e5.trans hff) hvl e6 e7⟩
  refine FrzL.ag (.cons (Qi rfl) (.cons ?_ (.cons ?_ .nil)))
  ·exact Qai3 (kn.un 1 rfl) hya (by simp [Qbd]) (Qhg (Qli _))
  ·exact hg2.frzR (B := [_, _, _]) kn (hfr _)
 have tl : ∀ (b : Bool) (H9 : Heap) (k3 : Nat), k2 ≤ k3 → k3 ≤ k2 + 1 → (b = true → 0 < s2.left) → Kn H H9 [(R.l, R.o k3), (gl, s2.o R)] ([(x6, .st [.str [], .sl true 1 [], .sl true 5 []]), (y, .vec 1 (Qbd s1.vars)), (x7, .st [.str name, .vsl y 1 0 s1.vars.length, c])] ++ Lg) →
   Qah prog (s_l3Gen_fn_7.seq Qp6) (Qz Qsc fun x H' => ∃ x', FrzV H' (un H) x x' ∧ K x' (H'.frz (un H))) [(0, V.c (C.ptr gl 0)), (6, V.c (C.ptr x6 0)), (7, V.c (C.ptr x7 0)), (42, .c (.bool b))] H9 := by
  intro b H9 k3 e1 e2 hb kn
  have hG9 := kn.e 1 rfl
  refine Qh (Qd rfl ?_ ?_)
  ·intro hc
   have hlp := hb hc
   have hl1 := hs2.l1
   refine Qa ?_
   simp only [go_sem, hG9, GS.o]
   refine ⟨Qo (by omega) (by omega), fun H10 h10 => ?_⟩
   have kn : Kn H H10 [(R.l, R.o k3), (gl, GS.o { s2 with left := s2.left - 1 } R)] ([(x6, _), (y, _), (x7, _)] ++ Lg) := kn.stE 1 rfl h10
   have hs3 : GS.ok { s2 with left := s2.left - 1 } k3 := ⟨hs2.n0, by have := hs2.n1; show s2.next ≤ _; omega, by show _ ≤ s2.left - 1; omega, by show s2.left - 1 ≤ 100; omega, by have := hs2.v; show s2.vars.length ≤ _; omega, hs2.f, hs2.fn⟩
   have hx7a := kn.l 2 rfl
   refine Qbw ?_
   simp only [go_sem, hx7a, hcow]
   refine Qby 2 (by omega) (kn.e 0 rfl) (kn.e 1 rfl) hne hs3 (hF1.keep kn g3 g4) (by omega) fun x H11 k4 q1 q2 hu q3 q4 => ?_
   have kn := kn.callE 0 rfl hu (R.o_ne _)
   have hx7b := kn.l 2 rfl
   simp only [go_sem, Qxs, hx7b, hcow, x.cells_len]
   refine kn.grow (B := [_, _, _]) hgr (.mk' _ _ _ _) (by intro r hr; simp only [List.mem_singleton] at hr; subst hr; rfl) (by simp only [Qa5, LIM, List.length_cons, List.length_nil]; omega) fun y' H12 kn => ?_
   have hx7c := kn.l 2 rfl
   simp only [go_sem, Qxr, hx7c]
   intro H13 h13
   have kn := kn.stL 2 rfl h13
   refine rest _ (by simp [lk]) (by simp [lk]) (l ++ [St.mk 7 [] [x] [] []]) _ _ _ _ H13 k4 (by omega) (by omega) kn (.mk _ _ _ (by simp [Qa5])) (fun H' => ?_) (hs3.mono (by omega)) g3 g4 (Qacx g6 ?_) ?_
   ·rw [← Qacw]
    refine .app (.same (Qfy _)) ?_
    simp only [Qaz, St.cells, Qbj]
    repeat' first | exact FrzL.nil | exact FrzR.nil | exact Qi rfl | exact FrzL.same (Ex.noOw _) | exact FrzL.same (St.noOw _) | refine FrzL.cons ?_ ?_ | refine FrzR.cons ?_ ?_ | refine FrzR.sl ?_
   ·simp only [Qco, St.ok, Qdn]; exact ⟨⟨by simp, ⟨q3, trivial⟩, trivial, trivial⟩, trivial⟩
   ·simp only [Qg5, Qw, St.size, Qae]; omega
  ·intro hc
   refine Qf ?_
   simp only [go_sem]
   exact rest _ (by simp [lk]) (by simp [lk]) l c _ Lg s2 H9 k3 (by omega) (by omega) kn hgr (fun H' => .same (Qfy _)) (hs2.mono (by omega)) g3 g4 g6 (by omega)
 refine ⟨fun hb => ?_, fun hb => ?_⟩
 ·refine Qa7 (kn.e 0 rfl) (by omega) fun v H9 hv hu => ?_
  have kn := kn.callE 0 rfl hu (R.o_ne _)
  simp only [go_sem, Qlb, hb]
  exact tl _ H9 (k2 + 1) (by omega) (by omega) (fun _ => by simpa using hb) kn
 ·simp only [go_sem, Qlb, hb]
  exact tl false H8 k2 (by omega) (by omega) (fun h => by simp at h) kn
end Go.AE.Y

namespace Go.AE.Y
open Go.Proofs.Tryz
variable {H : Heap} {K : V → Heap → Prop}
theorem Qn7 {l : List Ex} {i : Nat} (h : i < l.length) : Qae (l.take (i + 1)) = Qae (l.take i) + (l[i]'h).size := by
 rw [List.take_succ_eq_append_getElem h, Qul]; simp [Qae]
theorem Qr1 {l : List St} {i : Nat} (h : i < l.length) : Qw (l.take (i + 1)) = Qw (l.take i) + (l[i]'h).size := by
 rw [List.take_succ_eq_append_getElem h, Qg5]; simp [Qw]
theorem Qfz (l : List Ex) (i : Nat) : Qae (l.take i) ≤ Qae l := by
 conv => rhs; rw [← List.take_append_drop i l, Qul]
 omega
theorem Qg6 (l : List St) (i : Nat) : Qw (l.take i) ≤ Qw l := by
 conv => rhs; rw [← List.take_append_drop i l, Qg5]
 omega
theorem St.size_pos (x : St) : 1 ≤ x.size := by rw [x.size_eq]; omega
theorem Qacy (l : List St) : l.length ≤ Qw l := by
 induction l with
 | nil => simp
 | cons x r ih => simp only [List.length_cons, Qw]; have := x.size_pos; omega
theorem Qa2w : ∀ (n : Nat) (x : Ex) {H : Heap} {K : V → Heap → Prop}, x.size ≤ n → x.size ≤ 2^40 → K (.c (.int .i64 x.size)) H → Qp prog Qr6 [.ag x.cells] H K := by
 intro n
 induction n with
 | zero => intro x _ _ h; have := x.size_pos; omega
 | succ n ih =>
 intro x H K hn hb hK
 have hsz := x.size_kids
 refine Qb Qat Qa3e ?_
 refine Qa ?_
 simp only [go_sem, x.cells_eq]
 refine Qa ?_
 simp only [go_sem]
 refine Q4 ?_
 refine Qa ?_
 simp only [go_sem]
 refine Qh (Qc (Qu (fun n e1 H1 => ∃ i : Nat, n = x.kids.length - i ∧ i ≤ x.kids.length ∧ H1 = H ∧ e1 = [(1, .c (.pp [.int .i64 x.op, .int .i64 x.n, .str x.name, .sl false 4 (Qbj x.kids)])), (3, .c (.int .i64 ((1 + Qae (x.kids.take i) : Nat) : Int))), (4, .c (.int .i64 i))]) x.kids.length ?_ ?_))
 ·exact ⟨0, by omega, by omega, rfl, by simp [Qae]⟩
 ·rintro n e1 H1 ⟨i, hn, hi, rfl, rfl⟩
  refine Q4 ?_
  refine Qa ?_
  simp only [go_sem, Qa1]
  intro hl
  simp only [LIM] at hl
  refine Qh (Qd rfl ?_ ?_)
  ·intro hc
   have hlt : i < x.kids.length := by simpa using hc
   have hm := Qec (List.getElem_mem hlt)
   have htk := Qn7 hlt
   have htl := Qfz x.kids (i + 1)
   refine Qf ?_
   simp only [go_sem]
   refine Qh (Qc (Qq ?_))
   simp only [go_sem, hlt, Qa1, Qeb _ _ hlt, Ex.take4, Ex.allOw, Ex.cells_len]
   refine ih _ (by omega) (by omega) ?_
   simp only [go_sem, Q1h]
   refine ⟨Qo (by omega) (by omega), ?_⟩
   refine Qq ?_
   simp only [go_sem, X.next]
   refine ⟨Qo (by omega) (by omega), x.kids.length - (i + 1), by omega, i + 1, rfl, by omega, ?_⟩
   rw [htk]; simp; omega
  ·intro hc
   have hge : x.kids.length ≤ i := by simpa using hc
   refine Qt ?_
   simp only [go_sem, X.next]
   refine Qa ?_
   simp only [go_sem]
   refine Qj ?_
   simp only [go_sem, Qz, Qac, Qanm, reduceIte, List.mem_singleton, forall_eq, RS.op]
   rw [List.take_of_length_le hge, ← hsz]; exact hK
theorem Qa6s : ∀ (n : Nat) (x : Ex) {H : Heap} {K : V → Heap → Prop} (deep : Int), x.size ≤ n → deep ≤ 100 → (∀ b : Bool, K (.c (.bool b)) H) → Qp prog Qvz [.ag x.cells, .c (.int .i64 deep)] H K := by
 intro n
 induction n with
 | zero => intro x _ _ _ h; have := x.size_pos; omega
 | succ n ih =>
 intro x H K deep hn hd hK
 have hsz := x.size_kids
 refine Qb Qat Qa68 ?_
 refine Qa ?_
 simp only [go_sem, x.cells_eq]
 refine Qa ?_
 simp only [go_sem]
 refine Qa6t fun lo hi => ?_
 simp only [go_sem, Q8h, List.getD_cons_zero, List.getD_cons_succ]
 refine Q4 ?_
 refine Qa ?_
 simp only [go_sem]
 have retf : ∀ (b : Bool) (e : Env), lk 4 e = .c (.bool b) → Qz Qwh K .ret e H := by
  intro b e h1
  simp only [go_sem, Qz, Qac, Qwh, List.mem_singleton, forall_eq, RS.op, h1]
  exact hK _
 have rest : ∀ b : Bool, (b = false → 1 ≤ deep) → Qah prog (s_l2Form_3.seq Q8g) (Qz Qwh K)
   [(1, .c (.int .i64 deep)), (2, .c (.pp [.int .i64 x.op, .int .i64 x.n, .str x.name, .sl false 4 (Qbj x.kids)])), (31, .c (.bool b))] H := by
  intro b hb
  refine Qh (Qd rfl ?_ ?_)
  ·intro hc
   refine Qa ?_
   simp only [go_sem]
   refine Qj ?_
   simp only [go_sem]
   exact retf false _ (by simp [lk])
  intro hc
  have hdp := hb hc
  refine Qf ?_
  simp only [go_sem]
  refine Qa ?_
  simp only [go_sem]
  refine Q4 ?_
  refine Qa ?_
  simp only [go_sem]
  refine Q4t fun b1 => ?_
  simp only [go_sem, Q8i]
  have rest2 : ∀ b : Bool, Qah prog (s_l2Form_6.seq Q8f) (Qz Qwh K)
    [(1, .c (.int .i64 deep)), (2, .c (.pp [.int .i64 x.op, .int .i64 x.n, .str x.name, .sl false 4 (Qbj x.kids)])), (69, .c (.bool b))] H := by
   intro b
   refine Qh (Qd rfl ?_ ?_)
   ·intro hc
    refine Qa ?_
    simp only [go_sem]
    refine Qj ?_
    simp only [go_sem]
    exact retf false _ (by simp [lk])
   intro hc
   refine Qf ?_
   simp only [go_sem]
   refine Q4 ?_
   refine Qa ?_
   simp only [go_sem]
   refine Qh (Qc (Qu (fun n e1 H1 => ∃ i : Nat, n = x.kids.length - i ∧ i ≤ x.kids.length ∧ H1 = H ∧ e1 = [(1, .c (.int .i64 deep)), (2, .c (.pp [.int .i64 x.op, .int .i64 x.n, .str x.name, .sl false 4 (Qbj x.kids)])), (8, .c (.int .i64 i))]) x.kids.length ?_ ?_))
   ·exact ⟨0, by omega, by omega, rfl, rfl⟩
   ·rintro n e1 H1 ⟨i, hn, hi, rfl, rfl⟩
    refine Q4 ?_
    refine Qa ?_
    simp only [go_sem, Qa1]
    intro hl
    simp only [LIM] at hl
    refine Qh (Qd rfl ?_ ?_)
    ·intro hc
     have hlt : i < x.kids.length := by simpa using hc
     have hm := Qec (List.getElem_mem hlt)
     refine Qf ?_
     simp only [go_sem]
     refine Qh (Qc ?_)
     refine Qa ?_
     simp only [go_sem, hlt, Qa1, Qeb _ _ hlt, Ex.take4, Ex.allOw, Ex.cells_len]
     refine ⟨Qo (by omega) (by omega), ?_⟩
     refine ih _ (deep - 1) (by omega) (by omega) fun b2 => ?_
     simp only [go_sem, Q8j]
     refine Qd rfl ?_ ?_
     ·intro hc2
      refine Qa ?_
      simp only [go_sem]
      refine Qj ?_
      simp only [go_sem, X.next]
      exact retf false _ (by simp [lk])
     ·intro hc2
      refine Qf ?_
      simp only [go_sem]
      refine Qq ?_
      simp only [go_sem, X.next]
      exact ⟨Qo (by omega) (by omega), x.kids.length - (i + 1), by omega, i + 1, rfl, by omega, rfl⟩
    ·intro hc
     refine Qt ?_
     simp only [go_sem, X.next]
     refine Qa ?_
     simp only [go_sem]
     refine Qj ?_
     exact retf true _ (by simp [lk])
  refine ⟨fun hb1 => ?_, fun hb1 => ?_⟩
  ·refine Qdc ?_
   simp only [go_sem, Qvh]
   exact rest2 _
  ·replace hb1 := Qg8 hb1
   simp only [go_sem, Qvh, hb1]
   exact rest2 _
 refine ⟨fun hb1 => ?_, fun hb1 => ?_⟩
 ·replace hb1 := Quv hb1
  have hdp : 1 ≤ deep := by simp at hb1; omega
  refine Qdc ?_
  simp only [go_sem, Qvg, hb1, Qa1, cond_false]
  intro hl
  refine ⟨fun hb2 => ?_, fun hb2 => ?_⟩
  ·refine Qdc ?_
   simp only [go_sem, Qla]
   exact rest _ (fun _ => hdp)
  ·replace hb2 := Qg8 hb2
   simp only [go_sem, Qla, hb2]
   exact rest _ (fun _ => hdp)
 ·replace hb1 := Qg8 hb1
  simp only [go_sem, Qvg, Qla, hb1, Qa1, cond_true]
  exact rest _ (fun h => by simp at h)
theorem Qaq1 {x : Ex} (hx : x.size ≤ 2^40) (hK : ∀ b : Bool, K (.c (.bool b)) H) : Qp prog Qga [.ag x.cells] H K := by
 refine Qb Qat Qadf ?_
 refine Qa ?_
 simp only [go_sem, Ex.ne_nil]
 refine Qa ?_
 simp only [go_sem, Ex.take4, Ex.allOw, Ex.cells_len]
 refine Qa6s x.size x 6 (Nat.le_refl _) (by omega) fun b => ?_
 simp only [go_sem, Qj2, Ex.take4, Ex.allOw, Ex.cells_len]
 refine ⟨fun hb => ?_, fun hb => ?_⟩
 ·refine Qa2w x.size x (Nat.le_refl _) hx ?_
  simp only [go_sem, Qei]
  refine Qj ?_
  simp only [go_sem, Qz, Qac, Qie, reduceIte, List.mem_singleton, forall_eq, RS.op]
  exact hK _
 ·simp only [go_sem, Qei, hb]
  refine Qj ?_
  simp only [go_sem, Qz, Qac, Qie, reduceIte, List.mem_singleton, forall_eq, RS.op]
  exact hK _
end Go.AE.Y

namespace Go.AE.Y
open Go.Proofs.Tryz
variable {H : Heap} {K : V → Heap → Prop}
def St.raw (x : St) : List C := [.int .i64 x.op, .str x.name, .sl false 4 (Qbj x.args), .sl false 5 (Qaz x.body), .sl false 5 (Qaz x.els)]
theorem Qa2z : ∀ (n : Nat) (l : List St) {fl : Bool} {H : Heap} {K : V → Heap → Prop}, Qw l ≤ n → Qw l ≤ 2^40 → (∀ v : Nat, v ≤ Qw l → K (.c (.int .i64 v)) H) → Qp prog Qiv [.c (.sl fl 5 (Qaz l))] H K := by
 intro n
 induction n using Nat.strongRecOn with
 | ind n ih =>
 intro l fl H K hn hb hK
 have hlen := Qacy l
 refine Qb Qat Qa3h ?_
 refine Qa ?_
 simp only [go_sem]
 refine Qa ?_
 simp only [go_sem, Qa5]
 intro hl
 refine Q4 ?_
 refine Qa ?_
 simp only [go_sem]
 refine Qh (Qc (Qu (fun n e1 H1 => ∃ (i v : Nat), n = l.length - i ∧ i ≤ l.length ∧ v ≤ (l.length - i) + Qw (l.take i) ∧ H1 = H ∧ e1 = [(0, .c (.sl fl 5 (Qaz l))), (3, .c (.int .i64 v)), (4, .c (.int .i64 i))]) l.length ?_ ?_))
 ·exact ⟨0, l.length, by omega, by omega, by omega, rfl, rfl⟩
 ·rintro n e1 H1 ⟨i, v, hn1, hi, hv, rfl, rfl⟩
  refine Q4 ?_
  refine Qa ?_
  simp only [go_sem, Qa5]
  simp only [LIM] at hl
  refine fun _ => ?_
  refine Qh (Qd rfl ?_ ?_)
  ·intro hc
   have hlt : i < l.length := by simpa using hc
   have hm := Qlj (List.getElem_mem hlt)
   have htk := Qr1 hlt
   have htl := Qg6 l (i + 1)
   have hse := (l[i]'hlt).size_eq
   refine Qf ?_
   simp only [go_sem]
   refine Qh (Qc (Qbw ?_))
   simp only [go_sem, hlt, Qa5, Qeo _ _ hlt, St.cells_eq]
   refine ih (Qw l[i].body) (by omega) l[i].body (Nat.le_refl _) (by omega) fun a ha => ?_
   simp only [go_sem, Q1k, hlt, Qa5, Qeo _ _ hlt, St.cells_eq]
   refine ⟨Qo (by omega) (by omega), ?_⟩
   refine ih (Qw l[i].els) (by omega) l[i].els (Nat.le_refl _) (by omega) fun c hc => ?_
   simp only [go_sem, Q1j]
   refine ⟨Qo (by omega) (by omega), ?_⟩
   refine Qq ?_
   simp only [go_sem, X.next]
   refine ⟨Qo (by omega) (by omega), l.length - (i + 1), by omega, i + 1, v + a + c, rfl, by omega, by omega, rfl⟩
  ·intro hc
   have hge : l.length ≤ i := by simpa using hc
   refine Qt ?_
   simp only [go_sem, X.next]
   refine Qa ?_
   simp only [go_sem]
   refine Qj ?_
   simp only [go_sem, Qz, Qac, Qann, reduceIte, List.mem_singleton, forall_eq, RS.op]
   rw [List.take_of_length_le hge] at hv
   exact hK v (by omega)
def Qbbp (n : Nat) : Prop := ∀ (x : St) (deep : Int) (H : Heap) (K : V → Heap → Prop), x.size ≤ n → x.size ≤ 2^40 → deep ≤ 100 → (∀ b : Bool, K (.c (.bool b)) H) → Qp prog Q5o [.ag x.cells, .c (.int .i64 deep)] H K
def Qa1w (n : Nat) : Prop := ∀ (l : List St) (deep : Int) (fl : Bool) (H : Heap) (K : V → Heap → Prop), Qw l ≤ n → Qw l ≤ 2^40 → deep ≤ 100 → (∀ b : Bool, K (.c (.bool b)) H) → Qp prog Qiw [.c (.sl fl 5 (Qaz l)), .c (.int .i64 deep)] H K
theorem Qa8r {n : Nat} (hS : Qbbp n) : Qa1w n := by
 intro l deep fl H K hn hb hd hK
 refine Qb Qat Qa3i ?_
 have retf : ∀ (b : Bool) (e : Env), lk 4 e = .c (.bool b) → Qz Q6s K .ret e H := by
  intro b e h1
  simp only [go_sem, Qz, Qac, Q6s, List.mem_singleton, forall_eq, RS.op, h1]
  exact hK _
 refine Qa ?_
 simp only [go_sem]
 refine Q4 ?_
 refine Qa ?_
 simp only [go_sem]
 refine Qh (Qc (Qu (fun n e1 H1 => ∃ (i : Nat), n = l.length - i ∧ i ≤ l.length ∧ H1 = H ∧ e1 = [(0, .c (.sl fl 5 (Qaz l))), (1, .c (.int .i64 deep)), (5, .c (.int .i64 i))]) l.length ?_ ?_))
 ·exact ⟨0, by omega, by omega, rfl, rfl⟩
 ·rintro n e1 H1 ⟨i, hn1, hi, rfl, rfl⟩
  refine Q4 ?_
  refine Qa ?_
  simp only [go_sem, Qa5]
  intro hl
  simp only [LIM] at hl
  refine Qh (Qd rfl ?_ ?_)
  ·intro hc
   have hlt : i < l.length := by simpa using hc
   have hm := Qlj (List.getElem_mem hlt)
   refine Qf ?_
   simp only [go_sem]
   refine Qh (Qc ?_)
   refine Qa ?_
   simp only [go_sem, hlt, Qa5, Qeo _ _ hlt, St.take5, St.allOw, St.cells_len]
   refine hS _ deep _ _ (by omega) (by omega) hd fun b => ?_
   simp only [go_sem, Q1t]
   refine Qd rfl ?_ ?_
   ·intro hc2
    refine Qa ?_
    simp only [go_sem]
    refine Qj ?_
    simp only [go_sem, X.next]
    exact retf false _ (by simp [lk])
   ·intro hc2
    refine Qf ?_
    simp only [go_sem]
    refine Qq ?_
    simp only [go_sem, X.next]
    exact ⟨Qo (by omega) (by omega), l.length - (i + 1), by omega, i + 1, rfl, by omega, rfl⟩
  ·intro hc
   refine Qt ?_
   simp only [go_sem, X.next]
   refine Qa ?_
   simp only [go_sem]
   refine Qj ?_
   exact retf true _ (by simp [lk])
theorem Qbba {n : Nat} (hS : ∀ m, m < n → Qa1w m) : Qbbp n := by
 intro x deep H K hn hb hd hK
 have hsz := x.size_eq
 refine Qb Qat Qa7d ?_
 have retf : ∀ (b : Bool) (e : Env), lk 4 e = .c (.bool b) → Qz Q45 K .ret e H := by
  intro b e h1
  simp only [go_sem, Qz, Qac, Q45, List.mem_singleton, forall_eq, RS.op, h1]
  exact hK _
 refine Qa ?_
 simp only [go_sem, x.cells_eq]
 refine Q4 ?_
 refine Qan ?_
 simp only [go_sem]
 have rest : ∀ b : Bool, (b = false → 1 ≤ deep ∧ x.args.length = if x.op = 4 then 2 else 1) → Qah prog (s_l3Stmt_2.seq Q9r) (Qz Q45 K)
   [(1, .c (.int .i64 deep)), (2, .c (.pp [.int .i64 x.op, .str x.name, .sl false 4 (Qbj x.args), .sl false 5 (Qaz x.body), .sl false 5 (Qaz x.els)])), (23, .c (.bool b))] H := by
  intro b hb
  refine Qh (Qd rfl ?_ ?_)
  ·intro hc
   refine Qa ?_
   simp only [go_sem]
   refine Qj ?_
   simp only [go_sem]
   exact retf false _ (by simp [lk])
  intro hc
  obtain ⟨hdp, hal⟩ := hb hc
  have hap : 0 < x.args.length := by rw [hal]; split <;> omega
  refine Qf ?_
  simp only [go_sem]
  refine Qa ?_
  simp only [go_sem]
  refine Q4 ?_
  refine Qa ?_
  simp only [go_sem]
  refine Q4t fun b1 => ?_
  simp only [go_sem, Q9s]
  refine Qh (Qd rfl ?_ ?_)
  ·intro hc
   refine Qa ?_
   simp only [go_sem]
   refine Qj ?_
   simp only [go_sem]
   exact retf false _ (by simp [lk])
  intro hc
  refine Qf ?_
  simp only [go_sem]
  refine Q4 ?_
  refine Qa ?_
  simp only [go_sem]
  refine Qh (Qc (Qu (fun n e1 H1 => ∃ (i : Nat), n = x.args.length - i ∧ i ≤ x.args.length ∧ H1 = H ∧ e1 = [(1, .c (.int .i64 deep)), (2, .c (.pp [.int .i64 x.op, .str x.name, .sl false 4 (Qbj x.args), .sl false 5 (Qaz x.body), .sl false 5 (Qaz x.els)])), (6, .c (.int .i64 i))]) x.args.length ?_ ?_))
  ·exact ⟨0, by omega, by omega, rfl, rfl⟩
  ·rintro n e1 H1 ⟨i, hn1, hi, rfl, rfl⟩
   refine Q4 ?_
   refine Qa ?_
   simp only [go_sem, Qa1]
   intro hl
   simp only [LIM] at hl
   refine Qh (Qd rfl ?_ ?_)
   ·intro hc
    have hlt : i < x.args.length := by simpa using hc
    have hm := Qec (List.getElem_mem hlt)
    refine Qf ?_
    simp only [go_sem]
    refine Qh (Qc ?_)
    refine Qa ?_
    simp only [go_sem, hlt, Qa1, Qeb _ _ hlt, Ex.take4, Ex.allOw, Ex.cells_len]
    refine Qaq1 (by omega) fun b => ?_
    simp only [go_sem, Q9t]
    refine Qd rfl ?_ ?_
    ·intro hc2
     refine Qa ?_
     simp only [go_sem]
     refine Qj ?_
     simp only [go_sem, X.next]
     exact retf false _ (by simp [lk])
    ·intro hc2
     refine Qf ?_
     simp only [go_sem]
     refine Qq ?_
     simp only [go_sem, X.next]
     exact ⟨Qo (by omega) (by omega), x.args.length - (i + 1), by omega, i + 1, rfl, by omega, rfl⟩
   ·intro hc
    refine Qt ?_
    simp only [go_sem, X.next]
    refine Q4 ?_
    refine Qa ?_
    simp only [go_sem, hap, Qa1, Qeb _ _ hap, Ex.cells_eq]
    refine ⟨fun _ => Int.le_refl _, ?_⟩
    refine Qh (Qd rfl ?_ ?_)
    ·intro hc
     refine Qa ?_
     simp only [go_sem]
     refine Qj ?_
     simp only [go_sem]
     exact retf false _ (by simp [lk])
    intro hc
    refine Qf ?_
    simp only [go_sem]
    refine Q4 ?_
    refine Qa ?_
    simp only [go_sem, Qa5]
    intros
    refine Qh (Qd rfl ?_ ?_)
    ·intro hc
     refine Qa ?_
     simp only [go_sem]
     refine Qj ?_
     simp only [go_sem]
     exact retf false _ (by simp [lk])
    intro hc
    refine Qf ?_
    simp only [go_sem]
    refine Qa ?_
    simp only [go_sem]
    refine ⟨Qo (by omega) (by omega), ?_⟩
    refine hS (Qw x.body) (by omega) _ _ _ _ _ (Nat.le_refl _) (by omega) (by omega) fun b1 => ?_
    simp only [go_sem, Q1s]
    refine ⟨fun _ => Qo (by omega) (by omega), ?_⟩
    refine ⟨fun hb1 => ?_, fun hb1 => ?_⟩
    ·refine hS (Qw x.els) (by omega) _ _ _ _ _ (Nat.le_refl _) (by omega) (by omega) fun b2 => ?_
     simp only [go_sem, Qqq]
     refine Qj ?_
     exact retf _ _ (by simp [lk]; rfl)
    ·simp only [go_sem, Qqq, hb1]
     refine Qj ?_
     exact retf false _ (by simp [lk])
 refine ⟨fun hb1 => ?_, fun hb1 => ?_⟩
 ·replace hb1 := Quv hb1
  have hdp : 1 ≤ deep := by simp at hb1; omega
  refine Qdc ?_
  simp only [go_sem, Qvj, hb1, Qa1, cond_false]
  refine ⟨fun hb2 => ?_, fun hb2 => ?_⟩
  ·refine Qa6v ?_
   simp only [go_sem, Qlc, Qa1]
   refine rest _ (fun h => ⟨hdp, ?_⟩)
   have h1 : (x.args.length : Int) = if x.op = 4 then 2 else 1 := by
    cases h2 : decide (1 ≤ x.op ∧ x.op ≤ 8) <;> rw [h2] at h <;> simp_all
   by_cases h4 : x.op = 4
   ·rw [if_pos h4] at h1 ⊢; omega
   ·rw [if_neg h4] at h1 ⊢; omega
  ·replace hb2 := Qg8 hb2
   simp only [go_sem, Qlc, hb2, Qa1]
   exact rest _ (fun h => by simp at h)
 ·replace hb1 := Qg8 hb1
  simp only [go_sem, Qvj, Qlc, hb1, Qa1, cond_true]
  exact rest _ (fun h => by simp at h)
theorem Qbbb (n : Nat) : Qa1w n := by
 induction n using Nat.strongRecOn with
 | ind n ih => exact Qa8r (Qbba ih)
theorem Qbb8 {f : Fn} (hf : Qw f.body ≤ 2^40) (hK : ∀ b : Bool, K (.c (.bool b)) H) : Qp prog Qard [.ag f.cells] H K := by
 refine Qb Qat Qbce ?_
 have retf : ∀ (b : Bool) (e : Env), lk 2 e = .c (.bool b) → Qz Qa3x K .ret e H := by
  intro b e h1
  simp only [go_sem, Qz, Qac, Qa3x, List.mem_singleton, forall_eq, RS.op, h1]
  exact hK _
 refine Qa ?_
 simp only [go_sem, Fn.cells]
 refine Q4 ?_
 refine Qa ?_
 simp only [go_sem]
 refine Qh (Qc (Qu (fun n e1 H1 => ∃ (i : Nat), n = f.params.length - i ∧ i ≤ f.params.length ∧ H1 = H ∧ e1 = [(1, .c (.pp [.str f.name, .sl false 1 (Qbd f.params), .sl false 5 (Qaz f.body)])), (3, .c (.int .i64 i))]) f.params.length ?_ ?_))
 ·exact ⟨0, by omega, by omega, rfl, rfl⟩
 ·rintro n e1 H1 ⟨i, hn1, hi, rfl, rfl⟩
  refine Q4 ?_
  refine Qa ?_
  simp only [go_sem, Qaq]
  intro hl
  simp only [LIM] at hl
  refine Qh (Qd rfl ?_ ?_)
  ·intro hc
   have hlt : i < f.params.length := by simpa using hc
   refine Qf ?_
   simp only [go_sem]
   refine Qh (Qc ?_)
   refine Qa ?_
   simp only [go_sem, hlt, Qaq, Qg4 _ _ hlt]
   refine Q4t fun b => ?_
   simp only [go_sem, Qaoz]
   refine Qd rfl ?_ ?_
   ·intro hc2
    refine Qa ?_
    simp only [go_sem]
    refine Qj ?_
    simp only [go_sem, X.next]
    exact retf false _ (by simp [lk])
   ·intro hc2
    refine Qf ?_
    simp only [go_sem]
    refine Qq ?_
    simp only [go_sem, X.next]
    exact ⟨Qo (by omega) (by omega), f.params.length - (i + 1), by omega, i + 1, rfl, by omega, rfl⟩
  ·intro hc
   refine Qt ?_
   simp only [go_sem, X.next]
   refine Qa ?_
   simp only [go_sem]
   refine Q4t fun b => ?_
   simp only [go_sem, Qao0, Qaq]
   intros
   refine ⟨fun hb1 => ?_, fun hb1 => ?_⟩
   ·refine Qbbb _ _ _ _ _ _ (Nat.le_refl _) hf (by omega) fun b2 => ?_
    simp only [go_sem, Q8n]
    refine Qj ?_
    exact retf _ _ (by simp [lk]; rfl)
   ·simp only [go_sem, Q8n, hb1]
    refine Qj ?_
    exact retf false _ (by simp [lk])
def Qa3 : List Fn → Nat
 | [] => 0
 | f :: r => Qw f.body + Qa3 r
theorem Qon {l : List Fn} {f : Fn} (h : f ∈ l) : Qw f.body ≤ Qa3 l := by
 induction l with
 | nil => simp at h
 | cons g r ih =>
  simp only [Qa3]
  rcases List.mem_cons.1 h with rfl | h
  ·omega
  ·have := ih h; omega
theorem Qhi (a b : List Fn) : Qa3 (a ++ b) = Qa3 a + Qa3 b := by
 induction a with
 | nil => simp [Qa3]
 | cons x r ih => simp only [List.cons_append, Qa3, ih]; omega
theorem Qajw {l : List Fn} {i : Nat} (h : i < l.length) : Qa3 (l.take (i + 1)) = Qa3 (l.take i) + Qw (l[i]'h).body := by
 rw [List.take_succ_eq_append_getElem h, Qhi]; simp [Qa3]
theorem Q2x (l : List Fn) (i : Nat) : Qa3 (l.take i) ≤ Qa3 l := by
 conv => rhs; rw [← List.take_append_drop i l, Qhi]
 omega
theorem Qbah {l : List Fn} {fl : Bool} (hf : Qa3 l ≤ 2^40) (hK : ∀ n : Int, K (.c (.int .i64 n)) H) : Qp prog Qaiz [.ag [.sl fl 3 (Qb1 l)]] H K := by
 refine Qb Qat Qbat ?_
 refine Qa ?_
 simp only [go_sem]
 refine Qa ?_
 simp only [go_sem]
 refine Q4 ?_
 refine Qa ?_
 simp only [go_sem]
 refine Qh (Qc (Qu (fun n e1 H1 => ∃ (i v : Nat), n = l.length - i ∧ i ≤ l.length ∧ v ≤ Qa3 (l.take i) ∧ H1 = H ∧ e1 = [(1, .c (.pp [.sl fl 3 (Qb1 l)])), (3, .c (.int .i64 v)), (4, .c (.int .i64 i))]) l.length ?_ ?_))
 ·exact ⟨0, 0, by omega, by omega, by omega, rfl, rfl⟩
 ·rintro n e1 H1 ⟨i, v, hn1, hi, hv, rfl, rfl⟩
  refine Q4 ?_
  refine Qa ?_
  simp only [go_sem, Qbb]
  intro hl
  simp only [LIM] at hl
  refine Qh (Qd rfl ?_ ?_)
  ·intro hc
   have hlt : i < l.length := by simpa using hc
   have hm := Qon (List.getElem_mem hlt)
   have htk := Qajw hlt
   have htl := Q2x l (i + 1)
   refine Qf ?_
   simp only [go_sem]
   refine Qh (Qc (Qq ?_))
   simp only [go_sem, hlt, Qbb, Qfv _ _ hlt, Fn.cells]
   refine Qa2z _ _ (Nat.le_refl _) (by omega) fun c hc => ?_
   simp only [go_sem, Qaib]
   refine ⟨Qo (by omega) (by omega), ?_⟩
   refine Qq ?_
   simp only [go_sem, X.next]
   exact ⟨Qo (by omega) (by omega), l.length - (i + 1), by omega, i + 1, v + c, rfl, by omega, by omega, rfl⟩
  ·intro hc
   refine Qt ?_
   simp only [go_sem, X.next]
   refine Qa ?_
   simp only [go_sem]
   refine Qj ?_
   simp only [go_sem, Qz, Qac, Qa3w, reduceIte, List.mem_singleton, forall_eq, RS.op]
   exact hK _
theorem Qac0 {l : List Fn} {fl : Bool} (hf : Qa3 l ≤ 2^40) (hK : ∀ b : Bool, K (.c (.bool b)) H) : Qp prog Qdp [.ag [.sl fl 3 (Qb1 l)]] H K := by
 refine Qb Qat Qyr ?_
 have retf : ∀ (b : Bool) (e : Env), lk 2 e = .c (.bool b) → Qz Qeh K .ret e H := by
  intro b e h1
  simp only [go_sem, Qz, Qac, Qeh, List.mem_singleton, forall_eq, RS.op, h1]
  exact hK _
 refine Qa ?_
 simp only [go_sem]
 refine Q4 ?_
 refine Qa ?_
 simp only [go_sem, Qbb]
 intro hl
 simp only [LIM] at hl
 refine Qdc ?_
 simp only [go_sem, Qfc]
 refine Qh (Qd rfl ?_ ?_)
 ·intro hc
  refine Qa ?_
  simp only [go_sem]
  refine Qj ?_
  simp only [go_sem]
  exact retf false _ (by simp [lk])
 intro hc
 refine Qf ?_
 simp only [go_sem]
 refine Q4 ?_
 refine Qa ?_
 simp only [go_sem]
 refine Qh (Qc (Qu (fun n e1 H1 => ∃ (i : Nat), n = l.length - i ∧ i ≤ l.length ∧ H1 = H ∧ e1 = [(1, .c (.pp [.sl fl 3 (Qb1 l)])), (3, .c (.int .i64 i))]) l.length ?_ ?_))
 ·exact ⟨0, by omega, by omega, rfl, rfl⟩
 ·rintro n e1 H1 ⟨i, hn1, hi, rfl, rfl⟩
  refine Q4 ?_
  refine Qa ?_
  simp only [go_sem, Qbb]
  refine fun _ => ?_
  refine Qh (Qd rfl ?_ ?_)
  ·intro hc
   have hlt : i < l.length := by simpa using hc
   have hm := Qon (List.getElem_mem hlt)
   refine Qf ?_
   simp only [go_sem]
   refine Qh (Qc ?_)
   refine Qa ?_
   simp only [go_sem, hlt, Qbb, Qfv _ _ hlt, Fn.take3, Fn.allOw, Fn.cells_len]
   refine Qbb8 (by omega) fun b => ?_
   simp only [go_sem, Qfd]
   refine Qd rfl ?_ ?_
   ·intro hc2
    refine Qa ?_
    simp only [go_sem]
    refine Qj ?_
    simp only [go_sem, X.next]
    exact retf false _ (by simp [lk])
   ·intro hc2
    refine Qf ?_
    simp only [go_sem]
    refine Qq ?_
    simp only [go_sem, X.next]
    exact ⟨Qo (by omega) (by omega), l.length - (i + 1), by omega, i + 1, rfl, by omega, rfl⟩
  ·intro hc
   refine Qt ?_
   simp only [go_sem, X.next]
   refine Qa ?_
   simp only [go_sem]
   refine Qbah hf fun n => ?_
   simp only [go_sem, Qfe]
   refine Qj ?_
   exact retf _ _ (by simp [lk]; rfl)
end Go.AE.Y

namespace Go.AE.Y
open Go.Proofs.Tryz
structure PrOk (l : List Fn) : Prop where
 pos : 0 < l.length
 par : ∀ f ∈ l, f.params.length ≤ 3
 ok : ∀ f ∈ l, Qco f.body
 size : Qa3 l ≤ 2^34
 len : l.length ≤ 4
end Go.AE.Y
namespace Go.AE
open Go.AE.Y
open Go.Proofs.Tryz
theorem Kn.perm4 {H0 H : Heap} {E : List (Nat × Obj)} {a b c d : Nat × Obj} (kn : Kn H0 H E [a, b, c, d]) : Kn H0 H E [a, b, d] :=
 Kn.drop (A := [a, b, d]) (B := [c]) (kn.perm (.cons _ (.cons _ (.swap _ _ _))))
end Go.AE
namespace Go.AE.Y
open Go.Proofs.Tryz
set_option maxHeartbeats 2000000 in
theorem Qa6w {R : Rdr} {k : Nat} {H : Heap} {K : V → Heap → Prop} (hR : H R.l = R.o k) (hk : k + 7000000 ≤ 2^30)
  (hK : ∀ (l : List Fn) (H' : Heap) (k' : Nat), k < k' → k' ≤ k + 7000000 → Upd H H' [(R.l, R.o k')] → PrOk l → K (.ag [.sl false 3 (Qb1 l)]) H') :
  Qp prog Q5n [.c (.ptr R.l 0)] H K := by
 refine Q0 ?_
 refine Qb Qat Qa7c ?_
 refine Qa ?_
 simp only [go_sem]
 intro x2 hx2 H1 h1
 have kn := (Kn.start1 hR (R.o_ne k)).al hx2 h1
 refine Qa ?_
 simp only [go_sem]
 refine Qi6 (ns := [14, 20, 8, 26]) (kn.e 0 rfl) (by omega) (by simp) fun v H2 hv hu => ?_
 have kn := kn.callE 0 rfl hu (R.o_ne _)
 simp only [go_sem, Q9l]
 intro gl hgl H3 h3
 have kn : Kn H H3 [(R.l, R.o (k + 1))] [(x2, .st [.sl true 3 []]), (gl, GS.o ⟨[], (.sl true 3 [], []), [], true, 0, v⟩ R)] := kn.al hgl h3
 have hv26 : 0 ≤ v ∧ v ≤ 26 := by simp at hv; omega
 simp only [go_sem, Q9k]
 have hne : R.l ≠ gl := kn.ne 0 1 rfl rfl
 refine Q4 ?_
 refine Qa ?_
 simp only [go_sem]
 refine Qi6 (ns := [0, 1, 1, 2]) (kn.e 0 rfl) (by omega) (by simp) fun cnt H4 hcnt hu => ?_
 have kn := kn.callE 0 rfl hu (R.o_ne _)
 have hc2 : 0 ≤ cnt ∧ cnt ≤ 2 := by simp at hcnt; omega
 simp only [go_sem, Q9m]
 obtain ⟨M, hM⟩ : ∃ M : Nat, M = 2001301 := ⟨_, rfl⟩
 refine Qh (Qc (Qu (fun n e1 H1 => ∃ (j k4 : Nat) (s : GS), n = cnt.toNat - j ∧ (j : Int) ≤ cnt ∧ s.fns.length = j ∧ k + 2 ≤ k4 ∧ k4 ≤ k + 2 + M * j ∧ s.ok k4 ∧ (∀ f ∈ s.fns, Qco f.body) ∧ 4 * k + Qa3 s.fns ≤ 4 * k4 ∧
   Gr s.ffl.2 3 (Qb1 s.fns) s.ffl.1 ∧ Kn H H1 [(R.l, R.o k4)] ([(x2, .st [.sl true 3 []]), (gl, s.o R)] ++ s.ffl.2) ∧
   e1 = [(0, .c (.ptr R.l 0)), (2, .c (.ptr x2 0)), (3, .c (.ptr gl 0)), (4, .c (.int .i64 (cnt - j)))]) cnt.toNat ?_ ?_))
 ·refine ⟨0, k + 2, ⟨[], (.sl true 3 [], []), [], true, 0, v⟩, by omega, by omega, rfl, by omega, by omega, ⟨?_, ?_, ?_, ?_, by simp, by simp, by simp⟩, by simp, by simp only [Qa3]; omega, .nil 3, kn, by simp⟩
  ·show -1 ≤ (0 : Int); omega
  ·show (0 : Int) ≤ _; omega
  ·show _ ≤ v; omega
  ·show v ≤ 100; omega
 ·rintro n e1 H1 ⟨j, k4, s, hn, hj, hfl, hk4, hk4', hs, hfok, hsz, hgr, kn, rfl⟩
  have hMj : M * j ≤ M * 2 := Nat.mul_le_mul_left _ (by omega)
  have hM1 : M * (j + 1) = M * j + M := Nat.mul_succ _ _
  have hG1 := kn.l 1 rfl
  have hfow := hgr.isOw
  have hflen := hgr.lenC
  rw [Qbb] at hflen
  refine Q4 ?_
  refine Qa ?_
  simp only [go_sem]
  refine Qh (Qd rfl ?_ ?_)
  ·intro hc
   have hi : (j : Int) < cnt := by simp at hc; omega
   refine Qf ?_
   simp only [go_sem]
   refine Qh (Qc ?_)
   have hfok' := (hgr.okSl (B := [_, _]) kn)
   have eg : List.getD [[C.str [102]], [C.str [103]], [C.str [104]]] s.fns.length [] = [.str (List.getD [[102], [103], [104]] s.fns.length [])] := Qg4 [[102], [103], [104]] _ (by simp; omega)
   have hl3 : s.fns.length < 3 := by omega
   refine Qan ?_
   simp only [go_sem, hG1, GS.o, hfow, hflen, eq_true hfok', eg, hl3]
   refine Qa7 (kn.e 0 rfl) (by omega) fun p H2 hp hu => ?_
   have kn : Kn H H2 [(R.l, R.o (k4 + 1))] ([(x2, .st [.sl true 3 []]), (gl, s.o R)] ++ s.ffl.2) := kn.callE 0 rfl hu (R.o_ne _)
   rw [if_neg (by omega)] at hp
   have hG2 := kn.l 1 rfl
   have hfok2 := (hgr.okSl (B := [_, _]) kn)
   simp only [go_sem, Q9p, hG2, GS.o, hfow, hflen, eq_true hfok2, eg, hl3]
   have hF : FnsOk H2 R gl s := ⟨hgr, fun q hq => by
    have h1 := kn.get q (List.mem_append_right _ (List.mem_append_right _ hq))
    refine ⟨h1.1, fun hh => ?_, fun hh => ?_⟩
    ·exact kn.usedE 0 rfl (hh ▸ kn.loc q (List.mem_append_right _ hq))
    ·have := kn.dL
     rw [List.map_append] at this
     exact (List.nodup_append.1 this).2.2 gl (by simp) q.1 (Qbc hq) hh.symm⟩
   refine Qaht hp.1 (by omega) (kn.e 0 rfl) (kn.l 1 rfl) hne (hs.mono (Nat.le_succ k4)) hF (by omega) fun f s2 H5 k5 g1 g2 hu hs2 g3 g4 g5 g6 g7 => ?_
   have kn := kn.callEL 0 1 rfl rfl hu (R.o_ne _) (GS.o_ne _ _)
   have kn : Kn H H5 [(R.l, R.o k5)] ([(x2, .st [.sl true 3 []]), (gl, s2.o R)] ++ s.ffl.2) := kn
   simp only [go_sem, Q9o]
   intro x5 hx5 H6 h6
   have kn := kn.al hx5 h6
   have kn := kn.perm (L' := [(x2, _), (gl, _), (x5, _)] ++ s.ffl.2) (by
    simp only [List.cons_append, List.nil_append, List.append_assoc]
    exact .cons _ (.cons _ List.perm_append_comm))
   have hG6 := kn.l 1 rfl
   have hx56 := kn.l 2 rfl
   have hfok6 := (hgr.okSl (B := [_, _, _]) kn)
   simp only [go_sem, Q9n, hG6, hx56, GS.o, g3, g4, hfow, hflen, eq_true hfok6, eg, hl3, Fn.cells]
   intro H7 h7
   have kn : Kn H H7 [(R.l, R.o k5)] ([(x2, _), (gl, _), (x5, _)] ++ s.ffl.2) := kn.stL 2 rfl h7
   have hG7 := kn.l 1 rfl
   have hx57 := kn.l 2 rfl
   refine Qbw ?_
   simp only [go_sem, hG7, hx57, GS.o, g4, hfow]
   refine kn.grow (B := [_, _, _]) (new := [f.cells]) hgr (.mk' _ _ _ _) (by simp [f.noOw]) (by simp only [Qbb, LIM, List.length_cons, List.length_nil]; omega) fun z H8 kn => ?_
   have hG8 := kn.l 1 rfl
   simp only [go_sem, Q9q, hG8, GS.o]
   intro H9 h9
   have kn := kn.stL 1 rfl h9
   obtain ⟨s9, hs9⟩ : ∃ s9 : GS, s9 = GS.mk (s.fns ++ [f]) (C.vsl z 3 0 ((Qb1 s.fns).length + 1), [(z, Obj.vec 3 (Qb1 s.fns ++ [f.cells]))]) s2.vars s2.vfl s2.next s2.left := ⟨_, rfl⟩
   have ho9 : s9.o R = .st [C.ptr R.l 0, C.vsl z 3 0 ((Qb1 s.fns).length + 1), C.sl s2.vfl 1 (Qbd s2.vars), C.int IntKind.i64 s2.next, C.int IntKind.i64 s2.left] := by rw [hs9]; rfl
   rw [← ho9] at kn
   have kn : Kn H H9 [(R.l, R.o k5)] [(x2, _), (gl, s9.o R), (x5, _), (z, _)] := kn
   have kn := kn.perm4
   refine Qq ?_
   simp only [go_sem, X.next]
   have hkb : k5 ≤ k + 2 + M * (j + 1) := by rw [hM1]; omega
   refine ⟨Qo (by omega) (by omega), cnt.toNat - (j + 1), by omega, j + 1, k5, s9, rfl, by omega, by simp [hs9, hfl], by omega, hkb, ?_, ?_, ?_, ?_, by rw [hs9] at kn ⊢; exact kn, ?_⟩
   ·subst hs9; refine ⟨hs2.n0, hs2.n1, hs2.l0, hs2.l1, hs2.v, fun f' hf' => ?_, by simp; omega⟩
    rcases List.mem_append.1 hf' with h | h
    ·exact hs.f f' h
    ·simp at h; subst h; exact g5
   ·subst hs9; intro f' hf'
    rcases List.mem_append.1 hf' with h | h
    ·exact hfok f' h
    ·simp at h; subst h; exact g6
   ·subst hs9; simp only [Qhi, Qa3]; omega
   ·subst hs9; show Gr [(z, Obj.vec 3 (Qb1 s.fns ++ [f.cells]))] 3 (Qb1 (s.fns ++ [f])) _; rw [Qaho]; exact .mk _ _ _ (by simp [Qbb])
   ·have : cnt - ((j + 1 : Nat) : Int) = cnt - j - 1 := by omega
    rw [this]
  ·intro hc
   refine Qt ?_
   simp only [go_sem, X.next]
   have hkE : k4 ≤ k + 4002604 := by omega
   refine Qa ?_
   simp only [go_sem]
   refine Qi6 (ns := [0, 1, 2, 1]) (kn.e 0 rfl) (by omega) (by simp) fun p H2 hp hu => ?_
   have kn : Kn H H2 [(R.l, R.o (k4 + 1))] ([(x2, .st [.sl true 3 []]), (gl, s.o R)] ++ s.ffl.2) := kn.callE 0 rfl hu (R.o_ne _)
   have hp2 : 0 ≤ p ∧ p ≤ 3 := by simp at hp; omega
   simp only [go_sem, Q1n]
   have hF : FnsOk H2 R gl s := ⟨hgr, fun q hq => by
    have h1 := kn.get q (List.mem_append_right _ (List.mem_append_right _ hq))
    refine ⟨h1.1, fun hh => ?_, fun hh => ?_⟩
    ·exact kn.usedE 0 rfl (hh ▸ kn.loc q (List.mem_append_right _ hq))
    ·have := kn.dL
     rw [List.map_append] at this
     exact (List.nodup_append.1 this).2.2 gl (by simp) q.1 (Qbc hq) hh.symm⟩
   refine Qaht hp2.1 hp2.2 (kn.e 0 rfl) (kn.l 1 rfl) hne (hs.mono (Nat.le_succ k4)) hF (by omega) fun f s2 H5 k5 g1 g2 hu hs2 g3 g4 g5 g6 g7 => ?_
   have kn := kn.callEL 0 1 rfl rfl hu (R.o_ne _) (GS.o_ne _ _)
   have kn : Kn H H5 [(R.l, R.o k5)] ([(x2, .st [.sl true 3 []]), (gl, s2.o R)] ++ s.ffl.2) := kn
   simp only [go_sem, Q1m]
   intro x6 hx6 H6 h6
   have kn := kn.al hx6 h6
   have kn := kn.perm (L' := [(x2, _), (gl, _), (x6, _)] ++ s.ffl.2) (by
    simp only [List.cons_append, List.nil_append, List.append_assoc]
    exact .cons _ (.cons _ List.perm_append_comm))
   have hx66 := kn.l 2 rfl
   simp only [go_sem, Q1l, hx66, Fn.cells]
   intro H7 h7
   have kn : Kn H H7 [(R.l, R.o k5)] ([(x2, _), (gl, _), (x6, _)] ++ s.ffl.2) := kn.stL 2 rfl h7
   have hG7 := kn.l 1 rfl
   have hx67 := kn.l 2 rfl
   have hfok7 := hgr.okSl (B := [_, _, _]) kn
   have hrows7 := hgr.rowsOf (B := [_, _, _]) kn
   have hesz := hgr.elemSz
   have hL : s.fns.length ≤ LIM := by simp only [LIM]; omega
   refine Qan ?_
   simp only [go_sem, hG7, hx67, GS.o, g4, hfow, hflen, eq_true hfok7, hrows7, hesz, hL, Nat.zero_add]
   refine ⟨.inl trivial, Qahn _, fun y hy H8 h8 => ?_⟩
   have kn := kn.al hy h8
   have kn := kn.perm (L' := ([(x2, _), (gl, _), (x6, _)] ++ [(y, _)]) ++ s.ffl.2) Qbck
   have kn := kn.drop
   have hx68 := kn.l 2 rfl
   have kn : Kn H H8 [(R.l, R.o k5)] [(x2, _), (gl, _), (x6, _), (y, _)] := kn
   have hy8 := kn.l 3 rfl
   have etk : List.take s.fns.length (Qb1 s.fns) = Qb1 s.fns := List.take_of_length_le (by rw [Qbb]; omega)
   simp only [go_sem, Q1q, hx68, hy8, Qbb, etk]
   refine ⟨by omega, by simp only [LIM]; omega, fun z hz H9 h9 => ?_⟩
   have kn : Kn H H9 [(R.l, R.o k5)] [(x2, _), (gl, _), (x6, _), (z, .vec 3 (Qb1 s.fns ++ [f.cells]))] := kn.ap 3 rfl hz h9
   simp only [go_sem, Q1p]
   intro x7 hx7 H10 h10
   have kn := kn.al hx7 h10
   have hG10 := kn.l 1 rfl
   have hx6a := kn.l 2 rfl
   have hx7a := kn.l 4 rfl
   have kn : Kn H H10 [(R.l, R.o k5)] [(x2, _), (gl, _), (x6, _), (z, _), (x7, _)] := kn
   simp only [go_sem, Q1o, hG10, hx6a, hx7a, GS.o, g4, hfow]
   intro H11 h11
   have kn := kn.stL 4 rfl h11
   have kn : Kn H H11 [(R.l, R.o k5)] ([(x2, .st [.sl true 3 []]), (x7, .st [.vsl z 3 0 (s.fns.length + 1)])] ++ [(z, .vec 3 (Qb1 s.fns ++ [f.cells]))]) :=
    (kn.perm (L' := ([(x2, _), (x7, _)] ++ [(z, _)]) ++ [(gl, _), (x6, _)]) (by
     simp only [List.set, List.cons_append, List.nil_append]
     refine .cons _ ?_
     refine .trans (.cons _ (.cons _ (.swap _ _ _))) ?_
     refine .trans (.cons _ (.swap _ _ _)) ?_
     refine .trans (.swap _ _ _) ?_
     refine .cons _ ?_
     refine .trans (.cons _ (.swap _ _ _)) ?_
     exact .swap _ _ _)).drop
   have hz11 := kn.l 2 rfl
   have hx711 := kn.l 1 rfl
   obtain ⟨hfz, kn⟩ := kn.freeze 1 rfl (og' := .st [.sl false 3 (Qb1 (s.fns ++ [f]))]) (FrzKL.st (.cons rfl (by
    rw [← Qaho]
    exact Qai3 (by simp) hz11 (by simp [Qbb]) (Qhg (Qa7s (Qahn _) (by simp [f.noOw])))) .nil)) (by simp)
   refine Q4 ?_
   refine c_gh (Qr8 _ (fun t => ?_) hfz) (e' := [(2, V.c (C.ptr x2 0)), (7, V.c (C.ptr x7 0))]) ?_
   ·simp only [lk]
    split
    ·exact .c _ _ (.same _ rfl)
    ·split
     ·exact .c _ _ (.same _ rfl)
     ·exact .unk _
   generalize ((H11.frz fun m => m == z).set x7 (Obj.st [C.sl false 3 (Qb1 (s.fns ++ [f]))])) = H12 at *
   have hx7b := kn.l 1 rfl
   have hx2b := kn.l 0 rfl
   have hpr : Qa3 (s.fns ++ [f]) ≤ 2^34 := by rw [Qhi]; simp only [Qa3]; omega
   refine Qa ?_
   simp only [go_sem, hx7b]
   refine Qac0 (by omega) fun b => ?_
   simp only [go_sem, Q1r]
   refine Qh (Qd rfl ?_ ?_)
   ·intro hc
    refine Qa ?_
    simp only [go_sem, hx2b]
    intro H13 h13
    have kn := kn.stL 0 rfl h13
    have hx2c := kn.l 0 rfl
    refine Qj ?_
    simp only [go_sem, Qz, Qac, Qajy, reduceIte, List.mem_singleton, forall_eq, RS.op, hx2c]
    refine ⟨.ag [.sl false 3 (Qb1 [Fn.mk [109] [] [St.mk 3 [] [Ex.mk 1 1 [] []] [] []]])], FrzL.ag ?_, hK _ _ k5 (by omega) (by omega) kn.fin ⟨by simp, by simp, ?_, ?_, by simp⟩⟩
    ·simp only [Qb1, List.map_cons, List.map_nil, Fn.cells, Qail, Qaz, St.cells, Qbj, Ex.cells]
     repeat' first | exact FrzL.nil | exact FrzR.nil | exact Qi rfl | exact FrzL.same (Ex.noOw _) | exact FrzL.same (St.noOw _) | refine FrzL.cons ?_ ?_ | refine FrzR.cons ?_ ?_ | refine FrzR.sl ?_
    ·intro f hf
     simp at hf; subst hf
     simp [Qco, St.ok, Qdn, Ex.ok]
    ·simp [Qa3, Qw, St.size, Qae, Ex.size]
   ·intro hc
    refine Qf ?_
    simp only [go_sem]
    refine Qa ?_
    simp only [go_sem, hx2b, hx7b]
    intro H13 h13
    have kn := kn.stL 0 rfl h13
    have hx2c := kn.l 0 rfl
    refine Qj ?_
    simp only [go_sem, Qz, Qac, Qajy, reduceIte, List.mem_singleton, forall_eq, RS.op, hx2c]
    refine ⟨.ag [.sl false 3 (Qb1 (s.fns ++ [f]))], FrzL.ag (.cons (Qi rfl) .nil), hK _ _ k5 (by omega) (by omega) kn.fin ⟨by simp, ?_, ?_, hpr, by simp; omega⟩⟩
    ·intro f' hf'
     rcases List.mem_append.1 hf' with h | h
     ·exact hs.f f' h
     ·simp at h; subst h; exact g5
    ·intro f' hf'
     rcases List.mem_append.1 hf' with h | h
     ·exact hfok f' h
     ·simp at h; subst h; exact g6
end Go.AE.Y

namespace Go.AE.Y
open Go.Proofs.Tryz
variable {F H : Heap} {w : Nat} {s : LS} {K : V → Heap → Prop}
structure LStep (s s' : LS) (d : Nat) : Prop where
 bl : s.blocks.length ≤ s'.blocks.length
 ok : ∀ N, s.ok N → s'.ok (N + d)
 vl : s.vars.length ≤ s'.vars.length
 at_ : s.at_ < s.blocks.length → s'.at_ < s'.blocks.length
 fn : s'.fns = s.fns ∧ s'.pfl = s.pfl
theorem LStep.trans {s s' s'' : LS} {d e : Nat} (h : LStep s s' d) (k : LStep s' s'' e) : LStep s s'' (d + e) :=
 ⟨Nat.le_trans h.bl k.bl, fun N hN => by rw [← Nat.add_assoc]; exact k.ok _ (h.ok N hN), Nat.le_trans h.vl k.vl, fun ha => k.at_ (h.at_ ha), k.fn.1.trans h.fn.1, k.fn.2.trans h.fn.2⟩
theorem LStep.refl (s : LS) : LStep s s 0 := ⟨Nat.le_refl _, fun N h => h, Nat.le_refl _, fun h => h, rfl, rfl⟩
theorem LStep.mono {s s' : LS} {d e : Nat} (h : LStep s s' d) (hd : d ≤ e) : LStep s s' e := ⟨h.bl, fun N hN => (h.ok N hN).mono (by omega), h.vl, h.at_, h.fn⟩
theorem Qoh {N : Nat} (h : LInv F H w s) (hok : s.ok N) (hN : N + 1 ≤ 2^38) (hK : ∀ (s' : LS) (H' : Heap), LInv F H' w s' → LStep s s' 1 → K (.c (.int .i64 s.regs)) H') :
  Qp prog Qa0 [.c (.ptr w 0)] H K := by
 have hw := h.hw
 have h0 := hok.r0
 have h1 := hok.r1
 refine Qb Qat Qajq ?_
 refine Qa ?_
 simp only [go_sem]
 refine Qa ?_
 simp only [go_sem, hw, LS.o]
 refine ⟨Qo (by omega) (by omega), fun H1 h1' => ?_⟩
 have h' : LInv F H1 w { s with regs := s.regs + 1 } := h.setw h1' rfl rfl rfl rfl h.gv h.rv
 have hw1 := h'.hw
 refine Qa ?_
 simp only [go_sem, hw1, LS.o]
 refine ⟨Qo (by omega) (by omega), ?_⟩
 refine Qj ?_
 simp only [go_sem, Qz, Qac, Qwm, reduceIte, List.mem_singleton, forall_eq, RS.op]
 refine hK _ H1 h' ⟨Nat.le_refl _, fun M hM => ⟨?_, ?_, hM.n0, ?_, ?_, ?_, ?_⟩, Nat.le_refl _, fun h => h, rfl, rfl⟩
 ·have := hM.r0; show 0 ≤ s.regs + 1; omega
 ·have := hM.r1; show s.regs + 1 ≤ _; omega
 ·have := hM.n1; show s.next ≤ _; omega
 ·have := hM.b1; show s.blocks.length ≤ _; omega
 ·intro b hb; have := hM.i1 b hb; omega
 ·have := hM.v1; show s.vars.length ≤ _; omega
theorem Qamj {N : Nat} (h : LInv F H w s) (hok : s.ok N) (hN : N + 1 ≤ 2^38) (hK : ∀ (s' : LS) (H' : Heap), LInv F H' w s' → LStep s s' 1 → s.blocks.length < s'.blocks.length → s'.at_ = s.at_ → K (.c (.int .i64 s.blocks.length)) H') :
  Qp prog Qak [.c (.ptr w 0)] H K := by
 have hw := h.hw
 have hb1 := hok.b1
 have hbow := h.gb.isOw
 refine Qb Qat Qajp ?_
 refine Qa ?_
 simp only [go_sem]
 refine Qa ?_
 simp only [go_sem, hw, LS.o, hbow]
 refine h.addBlk (b := ⟨.sl true 4 [], [], [], 0, 0, true, []⟩) (by simp only [LIM]; omega) rfl rfl rfl fun y H1 hw1 cont => ?_
 simp only [go_sem, Qmm, hw1, LS.o]
 intro H2 h2
 have h' := cont H2 h2
 have hw2 := h'.hw
 obtain ⟨y2, hv1, hv2, hv3⟩ := h'.bvec (by simp)
 simp only [C.vsl.injEq] at hv1
 obtain ⟨rfl, _⟩ := hv1
 refine Qa ?_
 simp only [go_sem, hw2, LS.o, hv3, List.length_map, List.length_append]
 refine ⟨by omega, fun hl => ⟨Qo (by omega) (by omega), ?_⟩⟩
 refine Qj ?_
 simp only [go_sem, Qz, Qac, Qwl, reduceIte, List.mem_singleton, forall_eq, RS.op]
 have e1 : (((s.blocks.length + 1 : Nat) : Int) - 1) = s.blocks.length := by omega
 rw [e1]
 refine hK _ H2 h' ⟨by simp, fun M hM => ⟨hM.r0, ?_, hM.n0, ?_, ?_, ?_, ?_⟩, Nat.le_refl _, fun ha => by simp; show s.at_ < _; omega, rfl, rfl⟩ (by simp) rfl
 ·have := hM.r1; show s.regs ≤ _; omega
 ·have := hM.n1; show s.next ≤ _; omega
 ·have := hM.b1; simp; omega
 ·intro b hb
  rcases List.mem_append.1 hb with hb | hb
  ·have := hM.i1 b hb; omega
  ·simp at hb; subst hb; simp
 ·have := hM.v1; show s.vars.length ≤ _; omega
theorem Qff {N : Nat} (h : LInv F H w s) (hok : s.ok N) (hN : N + 1 ≤ 2^38) (hK : ∀ (s' : LS) (H' : Heap), LInv F H' w s' → LStep s s' 1 → s.blocks.length < s'.blocks.length → K (.c (.int .i64 s.blocks.length)) H') :
  Qp prog Qak [.c (.ptr w 0)] H K := Qamj h hok hN fun s' H' a b c _ => hK s' H' a b c
theorem Qyt {N : Nat} {op to n : Int} {fl : Bool} {args : List Int} (h : LInv F H w s) (hat : s.at_ < s.blocks.length) (hok : s.ok N) (hN : N + 1 ≤ 2^38)
  (hK : ∀ (s' : LS) (H' : Heap), LInv F H' w s' → LStep s s' 1 → K (.c (.int .i64 to)) H') :
  Qp prog Qar [.c (.ptr w 0), .c (.int .i64 op), .c (.int .i64 to), .c (.int .i64 n), .c (.sl fl 1 (Qe args))] H K := by
 have hw := h.hw
 obtain ⟨y, hbc, hlb, hy⟩ := h.bvec (by omega)
 have hm := List.getElem_mem hat
 have hi1 := hok.i1 _ hm
 have hiow := (h.gi _ hm).isOw
 have hg1 : List.getD (List.map Blk.row s.blocks) s.at_ [] = s.blocks[s.at_].row := by simp [List.getD_eq_getElem?_getD, hat]
 have hg2 : List.getD (List.take s.blocks.length (List.map Blk.row s.blocks)) s.at_ [] = s.blocks[s.at_].row := by
  rw [List.take_of_length_le (by simp)]; exact hg1
 refine Qb Qat Qary ?_
 refine Qa ?_
 simp only [go_sem]
 refine Qan ?_
 simp only [go_sem, hw, LS.o, hbc, hy, hat, Nat.zero_add, List.length_map]
 refine Qa ?_
 simp only [go_sem, hw, LS.o, hbc, hy, hat, hg2, Blk.row, hiow, Nat.zero_add, List.length_map]
 refine h.addIns hat hbc hlb ⟨op, to, n, fl, args, rfl⟩ (by simp only [LIM]; omega) fun z H1 hw1 hy1 cont => ?_
 simp only [go_sem, Qt8, hy1, hg1, hat, Blk.row, Nat.zero_add, List.length_map]
 intro H2 h2
 obtain ⟨b', hb', h'⟩ := cont H2 h2
 refine Qa ?_
 simp only [go_sem]
 refine Qj ?_
 simp only [go_sem, Qz, Qac, Q6x, reduceIte, List.mem_singleton, forall_eq, RS.op]
 refine hK _ H2 h' ⟨by simp, fun M hM => ⟨hM.r0, ?_, hM.n0, ?_, ?_, ?_, ?_⟩, Nat.le_refl _, fun ha => by simp; show s.at_ < _; omega, rfl, rfl⟩
 ·have := hM.r1; show s.regs ≤ _; omega
 ·have := hM.n1; show s.next ≤ _; omega
 ·have := hM.b1; simp; omega
 ·intro b hb
  rcases Qeg hb with rfl | hb
  ·have := hM.i1 _ hm; omega
  ·have := hM.i1 b hb; omega
 ·have := hM.v1; show s.vars.length ≤ _; omega
theorem Qs0 {N : Nat} {kind on : Int} {at' : Nat} {fl : Bool} {next : List Int} (h : LInv F H w s) (hat : s.at_ < s.blocks.length) (hat' : at' < s.blocks.length)
  (hK : ∀ (s' : LS) (H' : Heap), LInv F H' w s' → LStep s s' 0 → K (.tup []) H') :
  Qp prog Qax [.c (.ptr w 0), .c (.int .i64 kind), .c (.int .i64 on), .c (.sl fl 1 (Qe next)), .c (.int .i64 at')] H K := by
 have hw := h.hw
 obtain ⟨y, hbc, hlb, hy⟩ := h.bvec (by omega)
 have hm := List.getElem_mem hat
 have hg1 : List.getD (List.map Blk.row s.blocks) s.at_ [] = s.blocks[s.at_].row := by simp [List.getD_eq_getElem?_getD, hat]
 refine Qb Qat Qam9 ?_
 refine Qan ?_
 simp only [go_sem, hw, LS.o, hbc, hy, hat, Nat.zero_add, List.length_map]
 refine Qa ?_
 simp only [go_sem, hy, hg1, hat, Blk.row, Nat.zero_add, List.length_map]
 intro H1 h1
 have h1 : H1 = H.set y (.vec 5 ((s.blocks.set s.at_ { s.blocks[s.at_] with jump := kind }).map Blk.row)) := by rw [h1, ← Q6b]; rfl
 have hv := h.setBlk hat hbc hlb h1 rfl rfl rfl
 obtain ⟨b1, hb1, hb1l, hb1i⟩ : ∃ b1 : Blk, b1 = { s.blocks[s.at_] with jump := kind } ∧ b1.irows = s.blocks[s.at_].irows ∧ b1.ic = s.blocks[s.at_].ic := ⟨_, rfl, rfl, rfl⟩
 rw [← hb1] at hv h1
 have hy1 : H1 y = .vec 5 ((s.blocks.set s.at_ b1).map Blk.row) := by rw [h1]; exact Heap.set_same _ _ _
 have hg2 : List.getD ((s.blocks.set s.at_ b1).map Blk.row) s.at_ [] = b1.row := by simp [List.getD_eq_getElem?_getD, hat]
 refine Qa ?_
 simp only [go_sem, hy1, hg2, hat, Blk.row, Nat.zero_add, List.length_map, List.length_set]
 intro H2 h2
 have h2 : H2 = H1.set y (.vec 5 (((s.blocks.set s.at_ b1).set s.at_ { b1 with on := on }).map Blk.row)) := by rw [h2]; simp only [List.map_set]; rfl
 have hv := hv.setBlk (i := s.at_) (b' := { b1 with on := on }) (by simpa using hat) (by simpa using hbc) (by rfl) h2 (by simp) (by simp) (by simp)
 simp only [List.set_set] at hv h2
 obtain ⟨b2, hb2, hb2i⟩ : ∃ b2 : Blk, b2 = { b1 with on := on } ∧ b2.irows = b1.irows := ⟨_, rfl, rfl⟩
 rw [← hb2] at hv h2
 have hy2 : H2 y = .vec 5 ((s.blocks.set s.at_ b2).map Blk.row) := by rw [h2]; exact Heap.set_same _ _ _
 have hg3 : List.getD ((s.blocks.set s.at_ b2).map Blk.row) s.at_ [] = b2.row := by simp [List.getD_eq_getElem?_getD, hat]
 refine Qa ?_
 simp only [go_sem, hy2, hg3, hat, Blk.row, Nat.zero_add, List.length_map, List.length_set]
 intro H3 h3
 have h3 : H3 = H2.set y (.vec 5 (((s.blocks.set s.at_ b2).set s.at_ { b2 with next := next, nfl := fl }).map Blk.row)) := by rw [h3]; simp only [List.map_set]; rfl
 have hv := hv.setBlk (i := s.at_) (b' := { b2 with next := next, nfl := fl }) (by simpa using hat) (by simpa using hbc) (by rfl) h3 (by simp) (by simp) (by simp)
 simp only [List.set_set] at hv
 have hw3 := hv.hw
 refine Qq ?_
 simp only [go_sem, hw3, LS.o]
 intro H4 h4
 have h' := hv.setw (s' := { s with lb := [(y, .vec 5 ((s.blocks.set s.at_ { b2 with next := next, nfl := fl }).map Blk.row))], blocks := s.blocks.set s.at_ { b2 with next := next, nfl := fl }, at_ := at' }) h4 rfl rfl rfl rfl hv.gv hv.rv
 simp only [Qz, Qac, Q0s]
 refine ⟨by simp, hK _ H4 h' ⟨by simp, fun M hM => ⟨hM.r0, hM.r1, hM.n0, hM.n1, ?_, ?_, hM.v1⟩, Nat.le_refl _, fun ha => by simpa using hat', rfl, rfl⟩⟩
 ·have := hM.b1; simpa using this
 ·intro b hb
  rcases Qeg hb with rfl | hb
  ·show b2.irows.length ≤ _
   rw [hb2i, hb1l]; exact hM.i1 _ hm
  ·exact hM.i1 b hb
end Go.AE.Y

namespace Go.AE.Y
open Go.Proofs.Tryz
variable {F H : Heap} {w : Nat} {s : LS} {K : V → Heap → Prop}
theorem Qbbn {l : List Fn} {fl : Bool} {name : List UInt8} (hK : ∀ n : Int, K (.c (.int .i64 n)) H) : Qp prog Qym [.ag [.sl fl 3 (Qb1 l)], .c (.str name)] H K := by
 refine Qb Qat Qa3o ?_
 have retf : ∀ (n : Int) (e : Env), lk 4 e = .c (.int .i64 n) → Qz Q6y K .ret e H := by
  intro b e h1
  simp only [go_sem, Qz, Qac, Q6y, List.mem_singleton, forall_eq, RS.op, h1]
  exact hK _
 refine Qa ?_
 simp only [go_sem]
 refine Q4 ?_
 refine Qa ?_
 simp only [go_sem]
 refine Qh (Qc (Qu (fun n e1 H1 => ∃ (i : Nat), n = l.length - i ∧ i ≤ l.length ∧ H1 = H ∧ e1 = [(1, .c (.str name)), (2, .c (.pp [.sl fl 3 (Qb1 l)])), (5, .c (.int .i64 i))]) l.length ?_ ?_))
 ·exact ⟨0, by omega, by omega, rfl, rfl⟩
 ·rintro n e1 H1 ⟨i, hn1, hi, rfl, rfl⟩
  refine Q4 ?_
  refine Qa ?_
  simp only [go_sem, Qbb]
  intro hl
  simp only [LIM] at hl
  refine Qh (Qd rfl ?_ ?_)
  ·intro hc
   have hlt : i < l.length := by simpa using hc
   refine Qf ?_
   simp only [go_sem]
   refine Qh (Qc ?_)
   refine Qa ?_
   simp only [go_sem, hlt, Qbb, Qfv _ _ hlt, Fn.cells]
   refine Qd rfl ?_ ?_
   ·intro hc2
    refine Qa ?_
    simp only [go_sem]
    refine Qj ?_
    simp only [go_sem, X.next]
    exact retf _ _ (by simp [lk]; rfl)
   ·intro hc2
    refine Qf ?_
    simp only [go_sem]
    refine Qq ?_
    simp only [go_sem, X.next]
    exact ⟨Qo (by omega) (by omega), l.length - (i + 1), by omega, i + 1, rfl, by omega, rfl⟩
  ·intro hc
   refine Qt ?_
   simp only [go_sem, X.next]
   refine Qa ?_
   simp only [go_sem]
   refine Qj ?_
   exact retf _ _ (by simp [lk]; rfl)
theorem Qbcl {name : List UInt8} (h : LInv F H w s) (hK : ∀ n : Int, K (.c (.int .i64 n)) H) : Qp prog Qhe [.c (.ptr w 0), .c (.str name)] H K := by
 have hw := h.hw
 obtain ⟨hv1, hv2⟩ := h.vget
 have hvl := h.gv.lenC
 have hve := h.gv.elemSz
 have hvo := h.gv.isOw
 refine Qb Qat Qarz ?_
 have retf : ∀ (n : Int) (e : Env), lk 4 e = .c (.int .i64 n) → Qz Qu0 K .ret e H := by
  intro b e h1
  simp only [go_sem, Qz, Qac, Qu0, List.mem_singleton, forall_eq, RS.op, h1]
  exact hK _
 refine Qa ?_
 simp only [go_sem]
 refine Q4 ?_
 refine Qa ?_
 simp only [go_sem, hw, LS.o, hv1, hvl, hvo]
 intro hl
 simp only [LIM] at hl
 refine ⟨Qo (by omega) (by omega), ?_⟩
 refine Qh (Qc (Qu (fun n e1 H1 => ∃ (j : Nat), n = j ∧ j ≤ s.vars.length ∧ H1 = H ∧ e1 = [(0, .c (.ptr w 0)), (1, .c (.str name)), (5, .c (.int .i64 ((j : Int) - 1)))]) s.vars.length ?_ ?_))
 ·exact ⟨s.vars.length, rfl, by omega, rfl, rfl⟩
 ·rintro n e1 H1 ⟨j, hnj, hj, rfl, rfl⟩
  refine Q4 ?_
  refine Qa ?_
  simp only [go_sem]
  refine Qh (Qd rfl ?_ ?_)
  ·intro hc
   have hj1 : 1 ≤ j := by simp at hc; omega
   obtain ⟨i, rfl⟩ : ∃ i, j = i + 1 := ⟨j - 1, by omega⟩
   have e1 : (((i + 1 : Nat) : Int) - 1) = (i : Int) := by omega
   have hlt : i < s.vars.length := by omega
   obtain ⟨nm, a, b, hr⟩ := h.rv _ (List.getElem_mem hlt)
   have hr' : List.getD s.vars i [] = [.str nm, .int .i64 a, .int .i64 b] := by rw [← hr]; simp [List.getD_eq_getElem?_getD, hlt]
   rw [e1] at hc ⊢
   refine Qf ?_
   simp only [go_sem]
   refine Qh (Qc ?_)
   refine Qa ?_
   simp only [go_sem, hw, LS.o, hv1, hv2, hvl, hvo, hve, hlt, hr']
   refine Qd rfl ?_ ?_
   ·intro hc2
    refine Qa ?_
    simp only [go_sem, hw, LS.o, hv1, hv2, hvl, hvo, hve, hlt, hr']
    refine Qj ?_
    simp only [go_sem, X.next]
    exact retf _ _ (by simp [lk]; rfl)
   ·intro hc2
    refine Qf ?_
    simp only [go_sem]
    refine Qq ?_
    simp only [go_sem, X.next]
    exact ⟨Qo (by omega) (by omega), i, by omega, i, rfl, by omega, rfl⟩
  ·intro hc
   refine Qt ?_
   simp only [go_sem, X.next]
   refine Qa ?_
   simp only [go_sem]
   refine Qj ?_
   exact retf _ _ (by simp [lk]; rfl)
def Qa5u (n : Nat) : Prop := ∀ (x : Ex) (F H : Heap) (w : Nat) (s : LS) (N : Nat) (K : V → Heap → Prop), x.size ≤ n → x.ok → LInv F H w s → s.at_ < s.blocks.length → s.ok N → N + 10 * x.size ≤ 2^38 →
  (∀ (v : Int) (s' : LS) (H' : Heap), LInv F H' w s' → LStep s s' (10 * x.size) → K (.c (.int .i64 v)) H') → Qp prog Qb0 [.c (.ptr w 0), .ag x.cells] H K
def AndL (n : Nat) : Prop := ∀ (x : Ex) (F H : Heap) (w : Nat) (s : LS) (N : Nat) (K : V → Heap → Prop), x.size ≤ n → x.ok → x.op = 10 → LInv F H w s → s.at_ < s.blocks.length → s.ok N → N + 10 * x.size ≤ 2^38 →
  (∀ (v : Int) (s' : LS) (H' : Heap), LInv F H' w s' → LStep s s' (10 * x.size) → K (.c (.int .i64 v)) H') → Qp prog Qod [.c (.ptr w 0), .ag x.cells] H K
theorem Qbbq {n : Nat} (hE : ∀ m, m < n → Qa5u m) : AndL n := by
 intro x F H w s N K hn hok hop h hat hsok hN hK
 have hsz := x.size_kids
 have hk2 := Ex.ok_and hok hop
 have hkok := Ex.ok_kids hok
 obtain ⟨a, b, hab⟩ : ∃ a b, x.kids = [a, b] := by
  match hx : x.kids, hk2 with
  | [a, b], _ => exact ⟨a, b, rfl⟩
 rw [hab] at hsz hkok
 simp only [Qae, Qdn] at hsz hkok
 refine Qb Qat Qarx ?_
 refine Qa ?_
 simp only [go_sem, x.cells_eq]
 refine Qa ?_
 simp only [go_sem, hab, Qbj, Ex.take4, Ex.allOw, Ex.cells_len, List.getD_cons_zero]
 refine ⟨by omega, ?_⟩
 refine hE a.size (by omega) a F H w s N _ (Nat.le_refl _) hkok.1 h hat hsok (by omega) fun va s1 H1 h1 st1 => ?_
 simp only [go_sem, Qt0]
 refine Qa ?_
 simp only [go_sem]
 refine Qoh h1 (st1.ok _ hsok) (by omega) fun s2 H2 h2 st2 => ?_
 have st2 := st1.trans st2
 simp only [go_sem, Qt2]
 refine Qyt (args := []) h2 (st2.at_ hat) (st2.ok _ hsok) (by omega) fun s3 H3 h3 st3 => ?_
 have st3 := st2.trans st3
 simp only [go_sem, Qt1]
 refine Qa ?_
 simp only [go_sem]
 refine Qff h3 (st3.ok _ hsok) (by omega) fun s4 H4 h4 st4 hb4 => ?_
 have st4' := st4
 have st4 := st3.trans st4
 simp only [go_sem, Qt3]
 refine Qa ?_
 simp only [go_sem]
 refine Qff h4 (st4.ok _ hsok) (by omega) fun s5 H5 h5 st5 hb5 => ?_
 have st5 := st4.trans st5
 simp only [go_sem, Qt4]
 refine Qa ?_
 simp only [go_sem]
 refine Qs0 (next := [(s3.blocks.length : Int), (s4.blocks.length : Int)]) (N := 0) h5 (st5.at_ hat) (by omega) fun s6 H6 h6 st6 => ?_
 have hb6 := st6.bl
 have st6 := st5.trans st6
 refine Qa ?_
 simp only [go_sem, hab, Qbj, Ex.take4, Ex.allOw, Ex.cells_len, List.getD_cons_zero, List.getD_cons_succ]
 refine ⟨by omega, ?_⟩
 refine hE b.size (by omega) b F H6 w s6 _ _ (Nat.le_refl _) hkok.2.1 h6 (st6.at_ hat) (st6.ok _ hsok) (by omega) fun vb s7 H7 h7 st7 => ?_
 have hb7 := st7.bl
 have st7 := st6.trans st7
 simp only [go_sem, Qt5]
 refine Qa ?_
 simp only [go_sem]
 refine Qoh h7 (st7.ok _ hsok) (by omega) fun s8 H8 h8 st8 => ?_
 have hb8 := st8.bl
 have st8 := st7.trans st8
 simp only [go_sem, Qt7]
 refine Qyt (args := [vb]) h8 (st8.at_ hat) (st8.ok _ hsok) (by omega) fun s9 H9 h9 st9 => ?_
 have hb9 := st9.bl
 have st9 := st8.trans st9
 simp only [go_sem, Qt6]
 refine Qa ?_
 simp only [go_sem]
 refine Qyt (args := [s7.regs]) h9 (st9.at_ hat) (st9.ok _ hsok) (by omega) fun s10 H10 h10 st10 => ?_
 have hb10 := st10.bl
 have st10 := st9.trans st10
 refine Qa ?_
 simp only [go_sem]
 refine Qs0 (next := [(s4.blocks.length : Int)]) (N := 0) h10 (st10.at_ hat) (by omega) fun s11 H11 h11 st11 => ?_
 have st11 := st10.trans st11
 refine Qa ?_
 simp only [go_sem]
 refine Qj ?_
 simp only [go_sem, Qz, Qac, Q6w, reduceIte, List.mem_singleton, forall_eq, RS.op]
 exact hK _ s11 H11 h11 (st11.mono (by omega))
end Go.AE.Y

namespace Go.AE.Y
open Go.Proofs.Tryz
variable {F H : Heap} {w : Nat} {s : LS} {K : V → Heap → Prop}
set_option maxHeartbeats 2000000 in
theorem Qa91 {n : Nat} (hA : AndL n) (hE : ∀ m, m < n → Qa5u m) : Qa5u n := by
 intro x F H w s N K hn hok h hat hsok hN hK
 have hsz := x.size_kids
 have hkok := Ex.ok_kids hok
 refine Qb Qat Qam8 ?_
 have retf : ∀ (v : Int) (e : Env) (s' : LS) (H' : Heap), LInv F H' w s' → LStep s s' (10 * x.size) → lk 4 e = .c (.int .i64 v) → Qz Qou K .ret e H' := by
  intro v e s' H' a1 a2 h1
  simp only [go_sem, Qz, Qac, Qou, List.mem_singleton, forall_eq, RS.op, h1]
  exact hK _ _ _ a1 a2
 refine Qa ?_
 simp only [go_sem, x.cells_eq]
 refine Q4 ?_
 refine Qa ?_
 simp only [go_sem]
 refine Qh (Qc ?_)
 refine Qa ?_
 simp only [go_sem]
 refine Qd rfl ?_ ?_
 ·intro hc
  refine Qan ?_
  simp only [go_sem]
  refine Qoh h hsok (by omega) fun s1 H1 h1 st1 => ?_
  simp only [go_sem, Qqv]
  refine Qyt (args := []) h1 (st1.at_ hat) (st1.ok _ hsok) (by omega) fun s2 H2 h2 st2 => ?_
  simp only [go_sem, Qqu]
  refine Qj ?_
  simp only [go_sem]
  exact retf _ _ s2 H2 h2 ((st1.trans st2).mono (by omega)) (by simp [lk]; rfl)
 intro hc1
 refine Qa ?_
 simp only [go_sem]
 refine Qd rfl ?_ ?_
 ·intro hc
  refine Qa ?_
  simp only [go_sem]
  refine Qbcl h fun v => ?_
  simp only [go_sem, Qqw]
  refine Qj ?_
  simp only [go_sem]
  exact retf _ _ s H h ((LStep.refl s).mono (by omega)) (by simp [lk]; rfl)
 intro hc2
 refine Qa ?_
 simp only [go_sem]
 refine Qd rfl ?_ ?_
 ·intro hc
  have hop : x.op = 10 := by simpa using hc
  refine Qa ?_
  simp only [go_sem]
  rw [← x.cells_eq]
  refine hA x F H w s N _ hn hok hop h hat hsok hN fun v s1 H1 h1 st1 => ?_
  simp only [go_sem, Qqx]
  refine Qj ?_
  simp only [go_sem]
  exact retf _ _ s1 H1 h1 st1 (by simp [lk]; rfl)
 intro hc3
 refine Qf ?_
 simp only [go_sem]
 refine Qa ?_
 simp only [go_sem]
 refine Q4 ?_
 refine Qa ?_
 simp only [go_sem]
 refine Qh (Qc (Qu (fun n e1 H1 => ∃ (i : Nat) (ars : List Int) (c : C) (Lg : List (Nat × Obj)) (s' : LS), n = x.kids.length - i ∧ i ≤ x.kids.length ∧ ars.length = i ∧ Gr Lg 1 (Qe ars) c ∧ LInv F H1 w s' ∧ Kn F H1 [] (s'.L w ++ Lg) ∧
  LStep s s' (10 * Qae (x.kids.take i)) ∧ e1 = [(0, .c (.ptr w 0)), (3, .c (.pp [.int .i64 x.op, .int .i64 x.n, .str x.name, .sl false 4 (Qbj x.kids)])), (5, .c c), (6, .c (.int .i64 i))]) x.kids.length ?_ ?_))
 ·exact ⟨0, [], _, [], s, by omega, by omega, rfl, .nil 1, h, by simpa using h.kn, (LStep.refl s).mono (by omega), rfl⟩
 ·rintro n e1 H1 ⟨i, ars, c, Lg, s1, hn1, hi, hasl, hgr, h1, kn, st1, rfl⟩
  refine Q4 ?_
  refine Qa ?_
  simp only [go_sem, Qa1]
  intro hl
  simp only [LIM] at hl
  refine Qh (Qd rfl ?_ ?_)
  ·intro hc
   have hlt : i < x.kids.length := by simpa using hc
   have hm := Qec (List.getElem_mem hlt)
   have htk := Qn7 hlt
   have htl := Qfz x.kids (i + 1)
   refine Qf ?_
   simp only [go_sem]
   refine Qh (Qc (Qq ?_))
   simp only [go_sem, hlt, Qa1, Qeb _ _ hlt, Ex.take4, Ex.allOw, Ex.cells_len]
   obtain ⟨F', hf, back⟩ := h1.beside kn hgr
   refine hE x.kids[i].size (by omega) _ F' H1 w s1 _ _ (Nat.le_refl _) (Q5d hkok _ (List.getElem_mem hlt)) hf (st1.at_ hat) (st1.ok _ hsok) (by omega) fun v s2 H2 h2 st2 => ?_
   obtain ⟨h2, kn⟩ := back s2 H2 h2
   simp only [go_sem, Qqz]
   refine kn.grow (new := Qe [v]) hgr (.mk' _ _ _ _) (Qx _) (by simp only [Qg, hasl, List.length_cons, List.length_nil, LIM]; omega) fun y' H3 kn => ?_
   simp only [go_sem, Qqy]
   refine Qq ?_
   simp only [go_sem, X.next]
   refine ⟨Qo (by omega) (by omega), x.kids.length - (i + 1), by omega, i + 1, ars ++ [v], _, _, s2, rfl, by omega, by simp [hasl], .mk y' 1 (Qe (ars ++ [v])) (n := (Qe ars).length + (Qe [v]).length) (by simp [Qe]), h2.re kn.drop, by rw [Qdb]; exact kn, (st1.trans st2).mono (by rw [htk]; omega), by simp [Qe]⟩
  ·intro hc
   have hge : x.kids.length ≤ i := by simpa using hc
   rw [List.take_of_length_le hge] at st1
   refine Qt ?_
   simp only [go_sem, X.next]
   refine Q4 ?_
   refine Q4 ?_
   obtain ⟨S, H2, f1, f2, kn2⟩ := hgr.freeze kn (Qx _)
   have h2 := h1.re kn2
   refine c_gh (Qr8 S (fun t => ?_) f2) (e' := [(0, .c (.ptr w 0)), (3, .c (.pp [.int .i64 x.op, .int .i64 x.n, .str x.name, .sl false 4 (Qbj x.kids)])), (5, .c (.sl false 1 (Qe ars)))]) ?_
   ·simp only [lk]
    split
    ·exact .c _ _ (.same _ rfl)
    ·split
     ·exact .c _ _ (.same _ rfl)
     ·split
      ·exact .c _ _ f1
      ·exact .unk _
   refine Qa ?_
   simp only [go_sem]
   refine Qh (Qc ?_)
   refine Qa ?_
   simp only [go_sem]
   refine Qd rfl ?_ ?_
   ·intro hc
    refine Qa ?_
    simp only [go_sem]
    refine Qoh h2 (st1.ok _ hsok) (by omega) fun s3 H3 h3 st3 => ?_
    have st3 := st1.trans st3
    simp only [go_sem, Qmo]
    refine Qyt h3 (st3.at_ hat) (st3.ok _ hsok) (by omega) fun s4 H4 h4 st4 => ?_
    simp only [go_sem, Qmn]
    refine Qj ?_
    simp only [go_sem]
    exact retf _ _ s4 H4 h4 ((st3.trans st4).mono (by omega)) (by simp [lk]; rfl)
   intro hc4
   refine Qa ?_
   simp only [go_sem]
   refine Qd rfl ?_ ?_
   ·intro hc
    refine Qa ?_
    simp only [go_sem]
    refine Qoh h2 (st1.ok _ hsok) (by omega) fun s3 H3 h3 st3 => ?_
    have st3 := st1.trans st3
    simp only [go_sem, Qmq]
    refine Qyt h3 (st3.at_ hat) (st3.ok _ hsok) (by omega) fun s4 H4 h4 st4 => ?_
    simp only [go_sem, Qmp]
    refine Qj ?_
    simp only [go_sem]
    exact retf _ _ s4 H4 h4 ((st3.trans st4).mono (by omega)) (by simp [lk]; rfl)
   intro hc5
   refine Qa ?_
   simp only [go_sem]
   refine Qd rfl ?_ ?_
   ·intro hc
    have hw2 := h2.hw
    refine Qan ?_
    simp only [go_sem, hw2, LS.o]
    refine Qoh h2 (st1.ok _ hsok) (by omega) fun s3 H3 h3 st3 => ?_
    have hw3 := h3.hw
    have hfn := st3.fn
    have st3 := st1.trans st3
    simp only [go_sem, Qmt, hw3, LS.o, hfn.1, hfn.2]
    refine Qbbn fun q => ?_
    simp only [go_sem, Qms]
    refine Qyt h3 (st3.at_ hat) (st3.ok _ hsok) (by omega) fun s4 H4 h4 st4 => ?_
    simp only [go_sem, Qmr]
    refine Qj ?_
    simp only [go_sem]
    exact retf _ _ s4 H4 h4 ((st3.trans st4).mono (by omega)) (by simp [lk]; rfl)
   intro hc6
   refine Qf ?_
   simp only [go_sem]
   refine Qan ?_
   simp only [go_sem]
   refine Qoh h2 (st1.ok _ hsok) (by omega) fun s3 H3 h3 st3 => ?_
   have st3 := st1.trans st3
   simp only [go_sem, Qmv]
   refine Qyt h3 (st3.at_ hat) (st3.ok _ hsok) (by omega) fun s4 H4 h4 st4 => ?_
   simp only [go_sem, Qmu]
   refine Qj ?_
   exact retf _ _ s4 H4 h4 ((st3.trans st4).mono (by omega)) (by simp [lk]; rfl)
theorem Qbb4 (n : Nat) : Qa5u n := by
 induction n using Nat.strongRecOn with
 | ind n ih => exact Qa91 (Qbbq ih) ih
end Go.AE.Y

namespace Go.AE.Y
open Go.Proofs.Tryz
variable {F H : Heap} {w : Nat} {s : LS} {K : V → Heap → Prop}
theorem Qa62 : ∀ (n : Nat) (l : List St) {fl : Bool} {H : Heap} {K : V → Heap → Prop}, Qw l ≤ n → Qw l ≤ 2^40 → (∀ v : Nat, v ≤ Qw l → K (.c (.int .i64 v)) H) → Qp prog Qoc [.c (.sl fl 5 (Qaz l))] H K := by
 intro n
 induction n using Nat.strongRecOn with
 | ind n ih =>
 intro l fl H K hn hb hK
 have hlen := Qacy l
 refine Qb Qat Qa7m ?_
 refine Qa ?_
 simp only [go_sem]
 refine Qa ?_
 simp only [go_sem]
 refine Q4 ?_
 refine Qa ?_
 simp only [go_sem]
 refine Qh (Qc (Qu (fun n e1 H1 => ∃ (i v : Nat), n = l.length - i ∧ i ≤ l.length ∧ v ≤ Qw (l.take i) ∧ H1 = H ∧ e1 = [(0, .c (.sl fl 5 (Qaz l))), (3, .c (.int .i64 v)), (4, .c (.int .i64 i))]) l.length ?_ ?_))
 ·exact ⟨0, 0, by omega, by omega, by omega, rfl, rfl⟩
 ·rintro n e1 H1 ⟨i, v, hn1, hi, hv, rfl, rfl⟩
  refine Q4 ?_
  refine Qa ?_
  simp only [go_sem, Qa5]
  intro hl
  simp only [LIM] at hl
  refine Qh (Qd rfl ?_ ?_)
  ·intro hc
   have hlt : i < l.length := by simpa using hc
   have hm := Qlj (List.getElem_mem hlt)
   have htk := Qr1 hlt
   have htl := Qg6 l (i + 1)
   have hse := (l[i]'hlt).size_eq
   refine Qf ?_
   simp only [go_sem]
   refine Qh (Qc (Qbw ?_))
   simp only [go_sem, hlt, Qa5, Qeo _ _ hlt, St.cells_eq]
   refine Qa20 ?_
   obtain ⟨t, ht, ht1⟩ : ∃ t : Nat, (if decide (l[i].op = 1) = true then (1 : Int) else 0) = t ∧ t ≤ 1 := by
    by_cases h : l[i].op = 1
    ·exact ⟨1, by simp [h], Nat.le_refl _⟩
    ·exact ⟨0, by simp [h], by omega⟩
   simp only [go_sem, Qaa5, hlt, Qa5, Qeo _ _ hlt, St.cells_eq, ht]
   refine ⟨Qo (by omega) (by omega), ?_⟩
   refine ih (Qw l[i].body) (by omega) l[i].body (Nat.le_refl _) (by omega) fun a ha => ?_
   simp only [go_sem, Qaa4, hlt, Qa5, Qeo _ _ hlt, St.cells_eq]
   refine ⟨Qo (by omega) (by omega), ?_⟩
   refine ih (Qw l[i].els) (by omega) l[i].els (Nat.le_refl _) (by omega) fun c hc => ?_
   simp only [go_sem, Qaa3]
   refine ⟨Qo (by omega) (by omega), ?_⟩
   refine Qq ?_
   simp only [go_sem, X.next]
   refine ⟨Qo (by omega) (by omega), l.length - (i + 1), by omega, i + 1, v + t + a + c, rfl, by omega, by omega, rfl⟩
  ·intro hc
   have hge : l.length ≤ i := by simpa using hc
   refine Qt ?_
   simp only [go_sem, X.next]
   refine Qa ?_
   simp only [go_sem]
   refine Qj ?_
   simp only [go_sem, Qz, Qac, Qax9, reduceIte, List.mem_singleton, forall_eq, RS.op]
   rw [List.take_of_length_le hge] at hv
   exact hK v (by omega)
def Qbbo (n : Nat) : Prop := ∀ (x : St) (F H : Heap) (w : Nat) (s : LS) (N : Nat) (K : V → Heap → Prop), x.size ≤ n → x.ok → LInv F H w s → s.at_ < s.blocks.length → s.ok N → N + 10 * x.size ≤ 2^38 →
  (∀ (s' : LS) (H' : Heap), LInv F H' w s' → LStep s s' (10 * x.size) → K (.tup []) H') → Qp prog Qko [.c (.ptr w 0), .ag x.cells] H K
def Qbc3 (n : Nat) : Prop := ∀ (x : St) (F H : Heap) (w : Nat) (s : LS) (N : Nat) (K : V → Heap → Prop), x.size ≤ n → x.ok → LInv F H w s → s.at_ < s.blocks.length → s.ok N → N + 10 * x.size ≤ 2^38 →
  (∀ (s' : LS) (H' : Heap), LInv F H' w s' → LStep s s' (10 * x.size) → K (.tup []) H') → Qp prog Qkn [.c (.ptr w 0), .ag x.cells] H K
def Qaxf (n : Nat) : Prop := ∀ (l : List St) (fl : Bool) (F H : Heap) (w : Nat) (s : LS) (N : Nat) (K : V → Heap → Prop), Qw l ≤ n → Qco l → LInv F H w s → s.at_ < s.blocks.length → s.ok N → N + 10 * Qw l ≤ 2^38 →
  (∀ (s' : LS) (H' : Heap), LInv F H' w s' → LStep s s' (10 * Qw l) → K (.tup []) H') → Qp prog Qb8 [.c (.ptr w 0), .c (.sl fl 5 (Qaz l))] H K
theorem Qa5m {n : Nat} (hS : Qbbo n) : Qaxf n := by
 intro l fl F H w s N K hn hok h hat hsok hN hK
 have hw := h.hw
 obtain ⟨hv1, hv2⟩ := h.vget
 have hvl := h.gv.lenC
 have hvo := h.gv.isOw
 refine Qb Qat Qajr ?_
 refine Qa ?_
 simp only [go_sem, hw, LS.o, hv1, hvl, hvo]
 intro hvlim
 refine Q4 ?_
 refine Qa ?_
 simp only [go_sem]
 refine Qh (Qc (Qu (fun n e1 H1 => ∃ (i : Nat) (s' : LS), n = l.length - i ∧ i ≤ l.length ∧ LInv F H1 w s' ∧ LStep s s' (10 * Qw (l.take i)) ∧ e1 = [(0, .c (.ptr w 0)), (1, .c (.sl fl 5 (Qaz l))), (4, .c (.int .i64 s.vars.length)), (5, .c (.int .i64 i))]) l.length ?_ ?_))
 ·exact ⟨0, s, by omega, by omega, h, (LStep.refl s).mono (by omega), rfl⟩
 ·rintro n e1 H1 ⟨i, s1, hn1, hi, h1, st1, rfl⟩
  refine Q4 ?_
  refine Qa ?_
  simp only [go_sem, Qa5]
  intro hl
  simp only [LIM] at hl
  refine Qh (Qd rfl ?_ ?_)
  ·intro hc
   have hlt : i < l.length := by simpa using hc
   have hm := Qlj (List.getElem_mem hlt)
   have htk := Qr1 hlt
   have htl := Qg6 l (i + 1)
   refine Qf ?_
   simp only [go_sem]
   refine Qh (Qc (Qq ?_))
   simp only [go_sem, hlt, Qa5, Qeo _ _ hlt, St.take5, St.allOw, St.cells_len]
   refine hS l[i] F H1 w s1 _ _ (by omega) (Qa5p hok _ (List.getElem_mem hlt)) h1 (st1.at_ hat) (st1.ok _ hsok) (by omega) fun s2 H2 h2 st2 => ?_
   refine Qq ?_
   simp only [go_sem, X.next]
   exact ⟨Qo (by omega) (by omega), l.length - (i + 1), by omega, i + 1, s2, rfl, by omega, h2, (st1.trans st2).mono (by rw [htk]; omega), rfl⟩
  ·intro hc
   have hge : l.length ≤ i := by simpa using hc
   rw [List.take_of_length_le hge] at st1
   have hw1 := h1.hw
   obtain ⟨hv1', hv2'⟩ := h1.vget
   have hvl' := h1.gv.lenC
   have hvo' := h1.gv.isOw
   have hve' := h1.gv.elemSz
   have hvle := st1.vl
   have hrv : ∀ r ∈ s1.vars.take s.vars.length, VarRow r := fun r hr => h1.rv r (List.mem_of_mem_take hr)
   have fin : ∀ (H2 : Heap) (c : C), H2 = H1.set w (LS.o { s1 with vc := c }) → VGr s1.lv (s1.vars.take s.vars.length) c → Qz Qky K .nrm [] H2 := by
    intro H2 c h2 hg
    simp only [Qz, Qac, Qky]
    refine ⟨by simp, hK { s1 with vc := c, vars := s1.vars.take s.vars.length } H2 (h1.setw h2 rfl rfl rfl rfl hg hrv) ⟨st1.bl, fun M hM => ?_, by simp; omega, st1.at_, st1.fn⟩⟩
    have := st1.ok M hM
    exact ⟨this.r0, this.r1, this.n0, this.n1, this.b1, this.i1, by have := this.v1; simp; omega⟩
   refine Qt ?_
   simp only [go_sem, X.next]
   refine Qq ?_
   rcases h1.gv with ⟨g1, g2, g3⟩ | ⟨y, all, k, g1, g2, g3, g4⟩
   ·have hz : s.vars.length = 0 := by rw [g2] at hvle; simpa using hvle
    simp only [go_sem, hw1, LS.o, g1, hz, List.take_nil, List.drop_nil]
    refine ⟨⟨by omega, by omega⟩, fun H2 h2 => ?_⟩
    refine fin H2 (.sl true 3 []) h2 (.inl ⟨rfl, by rw [g2]; simp, g3⟩)
   ·rw [g1] at hv1' hvl'
    have hk : k = s1.vars.length := by simpa [lenC] using hvl'
    simp only [go_sem] at hv1'
    simp only [go_sem, hw1, LS.o, g1, hv1']
    refine ⟨⟨by omega, by omega⟩, fun H2 h2 => ?_⟩
    refine fin H2 (.vsl y 3 0 (s.vars.length - 0)) h2 (.inr ⟨y, all, s.vars.length - 0, rfl, by omega, ?_, g4⟩)
    rw [g3, List.take_take]; congr 1; omega
end Go.AE.Y

namespace Go.AE.Y
open Go.Proofs.Tryz
variable {F H : Heap} {w : Nat} {s : LS} {K : V → Heap → Prop}
set_option maxHeartbeats 1000000 in
theorem Qa65 {n : Nat} (hS : ∀ m, m < n → Qaxf m) : Qbc3 n := by
 intro x F H w s N K hn hok h hat hsok hN hK
 have hsz := x.size_eq
 rw [St.ok_eq] at hok
 obtain ⟨hap, hao, hbo, heo⟩ := hok
 have ham := Qec (List.getElem_mem hap)
 refine Qb Qat Qana ?_
 refine Qa ?_
 simp only [go_sem, x.cells_eq]
 refine Qa ?_
 simp only [go_sem]
 refine Qff h hsok (by omega) fun s1 H1 h1 st1 hb1 => ?_
 simp only [go_sem, Qq0]
 refine Qa ?_
 simp only [go_sem]
 refine Qff h1 (st1.ok _ hsok) (by omega) fun s2 H2 h2 st2 hb2 => ?_
 have st2 := st1.trans st2
 simp only [go_sem, Qq1]
 refine Qa ?_
 simp only [go_sem]
 refine Qff h2 (st2.ok _ hsok) (by omega) fun s3 H3 h3 st3 hb3 => ?_
 have st3 := st2.trans st3
 simp only [go_sem, Qq2]
 refine Qa ?_
 simp only [go_sem]
 refine Qs0 (next := [(s.blocks.length : Int)]) (N := 0) h3 (st3.at_ hat) (by omega) fun s4 H4 h4 st4 => ?_
 have hb4 := st4.bl
 have st4 := st3.trans st4
 refine Qa ?_
 simp only [go_sem, hap, Qa1, Qeb _ _ hap, Ex.take4, Ex.allOw, Ex.cells_len]
 refine ⟨by omega, ?_⟩
 refine Qbb4 _ x.args[0] F H4 w s4 _ _ (Nat.le_refl _) (Q5d hao _ (List.getElem_mem hap)) h4 (st4.at_ hat) (st4.ok _ hsok) (by omega) fun v s5 H5 h5 st5 => ?_
 have hb5 := st5.bl
 have st5 := st4.trans st5
 simp only [go_sem, Qq3]
 refine Qa ?_
 simp only [go_sem]
 refine Qs0 (next := [(s1.blocks.length : Int), (s2.blocks.length : Int)]) (N := 0) h5 (st5.at_ hat) (by omega) fun s6 H6 h6 st6 => ?_
 have hb6 := st6.bl
 have st6 := st5.trans st6
 refine Qa ?_
 simp only [go_sem]
 refine hS (Qw x.body) (by omega) x.body _ F H6 w s6 _ _ (Nat.le_refl _) hbo h6 (st6.at_ hat) (st6.ok _ hsok) (by omega) fun s7 H7 h7 st7 => ?_
 have hb7 := st7.bl
 have st7 := st6.trans st7
 refine Qq ?_
 simp only [go_sem]
 refine Qs0 (next := [(s.blocks.length : Int)]) (N := 0) h7 (st7.at_ hat) (by omega) fun s8 H8 h8 st8 => ?_
 have st8 := st7.trans st8
 simp only [Qz, Qac, Q0t]
 exact ⟨by simp, hK s8 H8 h8 (st8.mono (by omega))⟩
set_option maxHeartbeats 2000000 in
theorem Qa8q {n : Nat} (hS : ∀ m, m < n → Qaxf m) : Qbbo n := by
 intro x F H w s N K hn hok h hat hsok hN hK
 have hok' := hok
 have hsz := x.size_eq
 rw [St.ok_eq] at hok
 obtain ⟨hap, hao, hbo, heo⟩ := hok
 refine Qb Qat Qanb ?_
 have retn : ∀ (e : Env) (s' : LS) (H' : Heap) (q : X), (q = .nrm ∨ q = .ret) → LInv F H' w s' → LStep s s' (10 * x.size) → Qz Qov K q e H' := by
  intro e s' H' q hq a1 a2
  rcases hq with rfl | rfl <;> exact ⟨by simp [Qov], hK s' H' a1 a2⟩
 refine Qa ?_
 simp only [go_sem, x.cells_eq]
 refine Q4 ?_
 refine Qa ?_
 simp only [go_sem]
 refine Qh (Qd rfl ?_ ?_)
 ·intro hc
  refine Qa ?_
  simp only [go_sem]
  rw [← x.cells_eq]
  refine Qa65 hS x F H w s N _ hn hok' h hat hsok hN fun s1 H1 h1 st1 => ?_
  refine Qj ?_
  simp only [go_sem]
  exact retn _ s1 H1 _ (.inr rfl) h1 st1
 intro hc0
 refine Qf ?_
 simp only [go_sem]
 refine Qa ?_
 simp only [go_sem]
 refine Q4 ?_
 refine Qa ?_
 simp only [go_sem]
 refine Qh (Qc (Qu (fun n e1 H1 => ∃ (i : Nat) (ars : List Int) (c : C) (Lg : List (Nat × Obj)) (s' : LS), n = x.args.length - i ∧ i ≤ x.args.length ∧ ars.length = i ∧ Gr Lg 1 (Qe ars) c ∧ LInv F H1 w s' ∧ Kn F H1 [] (s'.L w ++ Lg) ∧
  LStep s s' (10 * Qae (x.args.take i)) ∧ e1 = [(0, .c (.ptr w 0)), (3, .c (.pp [.int .i64 x.op, .str x.name, .sl false 4 (Qbj x.args), .sl false 5 (Qaz x.body), .sl false 5 (Qaz x.els)])), (4, .c c), (5, .c (.int .i64 i))]) x.args.length ?_ ?_))
 ·exact ⟨0, [], _, [], s, by omega, by omega, rfl, .nil 1, h, by simpa using h.kn, (LStep.refl s).mono (by omega), rfl⟩
 ·rintro n e1 H1 ⟨i, ars, c, Lg, s1, hn1, hi, harl, hgr, h1, kn, st1, rfl⟩
  refine Q4 ?_
  refine Qa ?_
  simp only [go_sem, Qa1]
  intro hl
  simp only [LIM] at hl
  refine Qh (Qd rfl ?_ ?_)
  ·intro hc
   have hlt : i < x.args.length := by simpa using hc
   have hm := Qec (List.getElem_mem hlt)
   have htk := Qn7 hlt
   have htl := Qfz x.args (i + 1)
   refine Qf ?_
   simp only [go_sem]
   refine Qh (Qc (Qq ?_))
   simp only [go_sem, hlt, Qa1, Qeb _ _ hlt, Ex.take4, Ex.allOw, Ex.cells_len]
   obtain ⟨F', hf, back⟩ := h1.beside kn hgr
   refine Qbb4 _ _ F' H1 w s1 _ _ (Nat.le_refl _) (Q5d hao _ (List.getElem_mem hlt)) hf (st1.at_ hat) (st1.ok _ hsok) (by omega) fun v s2 H2 h2 st2 => ?_
   obtain ⟨h2, kn⟩ := back s2 H2 h2
   simp only [go_sem, Qq5]
   refine kn.grow (new := Qe [v]) hgr (.mk' _ _ _ _) (Qx _) (by simp only [Qg, harl, List.length_cons, List.length_nil, LIM]; omega) fun y' H3 kn => ?_
   simp only [go_sem, Qq4]
   refine Qq ?_
   simp only [go_sem, X.next]
   refine ⟨Qo (by omega) (by omega), x.args.length - (i + 1), by omega, i + 1, ars ++ [v], _, _, s2, rfl, by omega, by simp [harl], .mk y' 1 (Qe (ars ++ [v])) (n := (Qe ars).length + (Qe [v]).length) (by simp [Qe]), h2.re kn.drop, by rw [Qdb]; exact kn, (st1.trans st2).mono (by rw [htk]; omega), by simp [Qe]⟩
  ·intro hc
   have hge : x.args.length ≤ i := by simpa using hc
   have hil : i = x.args.length := by omega
   rw [List.take_of_length_le hge] at st1
   have har0 : 0 < ars.length := by omega
   refine Qt ?_
   simp only [go_sem, X.next]
   refine Q4 ?_
   obtain ⟨S, H2, f1, f2, kn2⟩ := hgr.freeze kn (Qx _)
   have h2 := h1.re kn2
   refine c_gh (Qr8 S (fun t => ?_) f2) (e' := [(0, .c (.ptr w 0)), (3, .c (.pp [.int .i64 x.op, .str x.name, .sl false 4 (Qbj x.args), .sl false 5 (Qaz x.body), .sl false 5 (Qaz x.els)])), (4, .c (.sl false 1 (Qe ars)))]) ?_
   ·simp only [lk]
    split
    ·exact .c _ _ (.same _ rfl)
    ·split
     ·exact .c _ _ (.same _ rfl)
     ·split
      ·exact .c _ _ f1
      ·exact .unk _
   have hsok1 := st1.ok _ hsok
   have hat1 := st1.at_ hat
   have hw2 := h2.hw
   refine Qa ?_
   simp only [go_sem]
   refine Qc ?_
   refine Qa ?_
   simp only [go_sem]
   refine Qd rfl ?_ ?_
   ·
    intro hc
    refine Qa ?_
    simp only [go_sem, hw2, LS.o]
    refine Qyt h2 hat1 hsok1 (by omega) fun s3 H3 h3 st3 => ?_
    have hw3 := h3.hw
    have hvo := h3.gv.isOw
    have hsok3 := st3.ok _ hsok1
    have st3 := st1.trans st3
    refine Qan ?_
    simp only [go_sem, hw3, LS.o, hvo]
    refine h3.addVar ⟨x.name, s3.next, 0, rfl⟩ (by have := hsok3.v1; simp only [LIM]; omega) fun y H4 hw4 cont => ?_
    simp only [go_sem, Qq6, hw4, LS.o]
    intro H5 h5
    have h5' := cont H5 h5
    have hw5 := h5'.hw
    refine Qq ?_
    have hn0 := hsok3.n0
    have hn1 := hsok3.n1
    simp only [go_sem, hw5, LS.o]
    refine ⟨Qo (by omega) (by omega), fun H6 h6 => ?_⟩
    have h6' := h5'.setw (s' := { s3 with vc := .vsl y 3 0 (s3.vars.length + 1), lv := [(y, .vec 3 (s3.vars ++ [[C.str x.name, C.int IntKind.i64 s3.next, C.int IntKind.i64 0]]))], vars := s3.vars ++ [[C.str x.name, C.int IntKind.i64 s3.next, C.int IntKind.i64 0]], next := s3.next + 1 }) h6 rfl rfl rfl rfl h5'.gv h5'.rv
    refine retn _ _ H6 _ (.inl rfl) h6' ⟨st3.bl, fun M hM => ?_, ?_, st3.at_, st3.fn⟩
    ·have q := st3.ok M hM
     refine ⟨q.r0, ?_, ?_, ?_, ?_, fun b hb => ?_, ?_⟩
     ·have := q.r1; show s3.regs ≤ _; omega
     ·have := q.n0; show 0 ≤ s3.next + 1; omega
     ·have := q.n1; show s3.next + 1 ≤ _; omega
     ·have := q.b1; show s3.blocks.length ≤ _; omega
     ·have := q.i1 b hb; omega
     ·have := q.v1; simp; omega
    ·have := st3.vl; simp; omega
   intro hc1
   refine Qa ?_
   simp only [go_sem]
   refine Qd rfl ?_ ?_
   ·
    intro hc
    refine Qq ?_
    simp only [go_sem]
    refine Qbcl h2 fun v => ?_
    simp only [go_sem, Qq7]
    refine Qyt h2 hat1 hsok1 (by omega) fun s3 H3 h3 st3 => ?_
    exact retn _ _ H3 _ (.inl rfl) h3 ((st1.trans st3).mono (by omega))
   intro hc2
   refine Qa ?_
   simp only [go_sem]
   refine Qd rfl ?_ ?_
   ·intro hc
    refine Qq ?_
    simp only [go_sem]
    refine Qyt h2 hat1 hsok1 (by omega) fun s3 H3 h3 st3 => ?_
    exact retn _ _ H3 _ (.inl rfl) h3 ((st1.trans st3).mono (by omega))
   intro hc3
   refine Qa ?_
   simp only [go_sem]
   refine Qd rfl ?_ ?_
   ·intro hc
    refine Qq ?_
    simp only [go_sem]
    refine Qyt h2 hat1 hsok1 (by omega) fun s3 H3 h3 st3 => ?_
    exact retn _ _ H3 _ (.inl rfl) h3 ((st1.trans st3).mono (by omega))
   intro hc4
   refine Qa ?_
   simp only [go_sem]
   refine Qd rfl ?_ ?_
   ·
    intro hc
    refine Qbw ?_
    simp only [go_sem, har0, Qg, Q6 _ _ har0]
    refine ⟨by omega, ?_⟩
    refine Qff h2 hsok1 (by omega) fun s3 H3 h3 st3 hb3 => ?_
    have st3 := st1.trans st3
    simp only [go_sem, Qmw, har0, Qg, Q6 _ _ har0]
    refine ⟨by omega, ?_⟩
    refine Qs0 (next := []) (N := 0) h3 (st3.at_ hat) (by omega) fun s4 H4 h4 st4 => ?_
    exact retn _ _ H4 _ (.inl rfl) h4 ((st3.trans st4).mono (by omega))
   intro hc5
   refine Qa ?_
   simp only [go_sem]
   refine Qd rfl ?_ ?_
   ·
    intro hc
    refine Qa ?_
    simp only [go_sem]
    refine Qff h2 hsok1 (by omega) fun s3 H3 h3 st3 hb3 => ?_
    have st3 := st1.trans st3
    simp only [go_sem, Qmx]
    refine Qa ?_
    simp only [go_sem]
    refine Qff h3 (st3.ok _ hsok) (by omega) fun s4 H4 h4 st4 hb4 => ?_
    have st4 := st3.trans st4
    simp only [go_sem, Qmy]
    refine Qa ?_
    simp only [go_sem]
    refine Qff h4 (st4.ok _ hsok) (by omega) fun s5 H5 h5 st5 hb5 => ?_
    have st5 := st4.trans st5
    simp only [go_sem, Qmz]
    refine Qa ?_
    simp only [go_sem, har0, Qg, Q6 _ _ har0]
    refine ⟨by omega, ?_⟩
    refine Qs0 (next := [(s1.blocks.length : Int), (s3.blocks.length : Int)]) (N := 0) h5 (st5.at_ hat) (by omega) fun s6 H6 h6 st6 => ?_
    have hb6 := st6.bl
    have st6 := st5.trans st6
    refine Qa ?_
    simp only [go_sem]
    refine hS (Qw x.body) (by omega) x.body _ F H6 w s6 _ _ (Nat.le_refl _) hbo h6 (st6.at_ hat) (st6.ok _ hsok) (by omega) fun s7 H7 h7 st7 => ?_
    have hb7 := st7.bl
    have st7 := st6.trans st7
    refine Qa ?_
    simp only [go_sem]
    refine Qs0 (next := [(s4.blocks.length : Int)]) (N := 0) h7 (st7.at_ hat) (by omega) fun s8 H8 h8 st8 => ?_
    have hb8 := st8.bl
    have st8 := st7.trans st8
    refine Qa ?_
    simp only [go_sem]
    refine hS (Qw x.els) (by omega) x.els _ F H8 w s8 _ _ (Nat.le_refl _) heo h8 (st8.at_ hat) (st8.ok _ hsok) (by omega) fun s9 H9 h9 st9 => ?_
    have hb9 := st9.bl
    have st9 := st8.trans st9
    refine Qq ?_
    simp only [go_sem]
    refine Qs0 (next := [(s4.blocks.length : Int)]) (N := 0) h9 (st9.at_ hat) (by omega) fun s10 H10 h10 st10 => ?_
    exact retn _ _ H10 _ (.inl rfl) h10 ((st9.trans st10).mono (by omega))
   ·intro hc6
    refine Qf ?_
    simp only [go_sem]
    exact retn _ _ H2 _ (.inl rfl) h2 (st1.mono (by omega))
theorem Qbcx (n : Nat) : Qaxf n := by
 induction n using Nat.strongRecOn with
 | ind n ih => exact Qa5m (Qa8q ih)
end Go.AE.Y

namespace Go.AE.Y
open Go.Proofs.Tryz
variable {H : Heap} {K : V → Heap → Prop}
set_option maxHeartbeats 2000000 in
theorem Qbb9 {fns : List Fn} {fl : Bool} {k : Nat} (hk : k < fns.length) (hpl : fns[k].params.length ≤ 3) (hbo : Qco fns[k].body) (hbs : Qw fns[k].body ≤ 2^34)
  (hK : ∀ (c : CodeD) (H' : Heap), Upd H H' [] → c.fits → K (.ag c.cells) H') : Qp prog Qare [.ag [.sl fl 3 (Qb1 fns)], .c (.int .i64 k)] H K := by
 refine Q0 ?_
 refine Qb Qat Qbcg ?_
 refine Qa ?_
 simp only [go_sem]
 intro x4 hx4 H1 h1
 have kn := (Kn.start0 H).al hx4 h1
 refine Qa ?_
 simp only [go_sem, hk, Qbb, Qfv _ _ hk, Fn.take3, Fn.allOw, Fn.cells_len]
 generalize fns[k] = f at *
 intro x5 hx5 H2 h2
 have kn := kn.al hx5 h2
 have hx52 := kn.l 1 rfl
 simp only [go_sem, Qapy, hx52, Fn.cells]
 intro H3 h3
 have kn : Kn H H3 [] [(x4, .st [.int .i64 0, .int .i64 0, .sl true 5 []]), (x5, .st [.str f.name, .sl false 1 (Qbd f.params), .sl false 5 (Qaz f.body)])] := kn.stL 1 rfl h3
 have hx43 := kn.l 0 rfl
 have hx53 := kn.l 1 rfl
 have h45 := kn.neL 0 1 rfl rfl (by decide)
 refine Qa ?_
 simp only [go_sem, hx53, Qaq]
 intro hpl2 w hw H4 h4
 have h : LInv H3 H4 w ⟨fns, fl, 0, 0, .sl true 5 [], [], [], 0, .sl true 3 [], [], [], f.params.length⟩ :=
  ⟨(Kn.start0 H3).al hw h4, .nil 5, .inl ⟨rfl, rfl, rfl⟩, by simp, by simp, by simp⟩
 have hfr : ∀ (s : LS) (H' : Heap), LInv H3 H' w s → H' x4 = .st [.int .i64 0, .int .i64 0, .sl true 5 []] ∧ H' x5 = .st [.str f.name, .sl false 1 (Qbd f.params), .sl false 5 (Qaz f.body)] := fun s H' h' =>
  ⟨by rw [h'.kn.chg x4 (by rw [hx43]; simp) (by simp), hx43], by rw [h'.kn.chg x5 (by rw [hx53]; simp) (by simp), hx53]⟩
 have hx54 := (hfr _ _ h).2
 have hw4 := h.hw
 simp only [go_sem, Qapz]
 refine Qa ?_
 simp only [go_sem, hx54, hw4, LS.o, Qaq]
 intro _ H5 h5
 have h := h.setw (s' := ⟨fns, fl, f.params.length, 0, .sl true 5 [], [], [], 0, .sl true 3 [], [], [], f.params.length⟩) h5 rfl rfl rfl rfl h.gv h.rv
 have hx55 := (hfr _ _ h).2
 refine Qan ?_
 simp only [go_sem, hx55, Qaq]
 refine Qa62 _ f.body (Nat.le_refl _) (by omega) fun v hv => ?_
 have hw5 := h.hw
 simp only [go_sem, Qap0, hx55, hw5, LS.o, Qaq]
 refine ⟨Qo (by omega) (by omega), fun H6 h6 => ?_⟩
 have h := h.setw (s' := ⟨fns, fl, f.params.length, (f.params.length : Int) + v, .sl true 5 [], [], [], 0, .sl true 3 [], [], [], f.params.length⟩) h6 rfl rfl rfl rfl h.gv h.rv
 refine Q4 ?_
 refine Qa ?_
 simp only [go_sem]
 refine Qh (Qc (Qu (fun n e1 H1 => ∃ (i : Nat) (s' : LS), n = f.params.length - i ∧ i ≤ f.params.length ∧ LInv H3 H1 w s' ∧ s'.blocks = [] ∧ s'.at_ = 0 ∧ s'.regs = (f.params.length : Int) + v ∧ s'.next = f.params.length ∧ s'.vars.length = i ∧
  e1 = [(4, .c (.ptr x4 0)), (5, .c (.ptr x5 0)), (6, .c (.ptr w 0)), (7, .c (.int .i64 i))]) f.params.length ?_ ?_))
 ·exact ⟨0, _, by omega, by omega, h, rfl, rfl, rfl, rfl, rfl, rfl⟩
 ·rintro n e1 H1 ⟨i, s, hn1, hi, h, hb0, ha0, hr0, hn0, hvl, rfl⟩
  have hx51 := (hfr _ _ h).2
  have hw1 := h.hw
  have hvo := h.gv.isOw
  refine Q4 ?_
  refine Qa ?_
  simp only [go_sem, hx51, Qaq]
  intro _
  refine Qh (Qd rfl ?_ ?_)
  ·intro hc
   have hlt : i < f.params.length := by simpa using hc
   refine Qf ?_
   simp only [go_sem]
   refine Qh (Qc (Qbw ?_))
   simp only [go_sem, hx51, hw1, LS.o, hvo, hlt, Qaq, Qg4 _ _ hlt]
   refine h.addVar ⟨_, _, _, rfl⟩ (by simp only [LIM]; omega) fun y H4 hw4 cont => ?_
   simp only [go_sem, Qap1, hw4, LS.o]
   intro H5 h5
   have h' := cont H5 h5
   refine Qq ?_
   simp only [go_sem, X.next]
   exact ⟨Qo (by omega) (by omega), f.params.length - (i + 1), by omega, i + 1, _, rfl, by omega, h', hb0, ha0, hr0, hn0, by simp [hvl], rfl⟩
  ·intro hc
   refine Qt ?_
   simp only [go_sem, X.next]
   have hsok : s.ok (3 + v) := ⟨by rw [hr0]; omega, by rw [hr0]; omega, by rw [hn0]; omega, by rw [hn0]; omega, by simp [hb0], by simp [hb0], by omega⟩
   refine Qa ?_
   simp only [go_sem]
   refine Qamj h hsok (by omega) fun s1 H4 h1 st1 hb1 hat1 => ?_
   have hat : s1.at_ < s1.blocks.length := by rw [hat1, ha0]; omega
   have hsok1 := st1.ok _ hsok
   refine Qa ?_
   have hx54 := (hfr _ _ h1).2
   simp only [go_sem, hx54]
   refine Qbcx _ f.body _ H3 H4 w s1 _ _ (Nat.le_refl _) hbo h1 hat hsok1 (by omega) fun s2 H5 h2 st2 => ?_
   refine Qa ?_
   simp only [go_sem]
   refine Qoh h2 (st2.ok _ hsok1) (by omega) fun s3 H6 h3 st3 => ?_
   have st3 := st2.trans st3
   simp only [go_sem, Qap3]
   refine Qyt (args := []) h3 (st3.at_ hat) (st3.ok _ hsok1) (by omega) fun s4 H7 h4 st4 => ?_
   have st4 := st3.trans st4
   simp only [go_sem, Qap2]
   have hbl4 := st4.bl
   refine Qa ?_
   simp only [go_sem]
   refine Qs0 (at' := 0) (next := []) (N := 0) h4 (st4.at_ hat) (by omega) fun s5 H8 h5 st5 => ?_
   have hw8 := h5.hw
   obtain ⟨hx48, hx58⟩ := hfr _ _ h5
   have hbow := h5.gb.isOw
   refine Qa ?_
   simp only [go_sem, hw8, hx48, LS.o, hbow]
   intro H9 h9
   have hx49 : H9 x4 = .st [.int .i64 s5.params, .int .i64 s5.regs, s5.bc] := by rw [h9]; exact Heap.set_same _ _ _
   have ho9 : ∀ m, m ≠ x4 → H9 m = H8 m := fun m hm => by rw [h9]; exact Heap.set_other _ _ hm
   have huse : ∀ m, H m ≠ .none → H9 m = H m := fun m hm => by
    have e1 := kn.chg m hm (by simp)
    have e2 := h5.kn.chg m (by rw [e1]; exact hm) (by simp)
    rw [ho9 m (fun hh => by subst hh; exact hm (kn.free 0 rfl)), e2, e1]
   have hun : ∀ p ∈ s5.L w, H9 p.1 = p.2 ∧ un H p.1 = true := fun p hp => by
    have e1 := (h5.kn.get p (by simpa using hp)).1
    have e2 := h5.kn.loc p hp
    have hne : p.1 ≠ x4 := fun hh => by rw [hh, hx43] at e2; simp at e2
    refine ⟨by rw [ho9 _ hne, e1], Qlk ?_⟩
    cases hh : H p.1 with
    | none => rfl
    | _ => have := kn.chg p.1 (by rw [hh]; simp) (by simp); rw [e2, hh] at this; simp at this
   refine Qj ?_
   simp only [go_sem, Qz, Qac, Qa89, reduceIte, List.mem_singleton, forall_eq, RS.op, hx49, hbow]
   have hok5 := (st4.trans st5).ok _ hsok1
   obtain ⟨bs, hbs1, hbs2, hbs3⟩ := Qaxj (H := H9) (S := un H) s5.blocks fun b hb => ⟨h5.gi b hb, h5.ri b hb, fun p hp => hun p (by
    simp only [LS.L, List.mem_append, List.mem_flatMap]
    exact .inr (.inr (.inr ⟨b, hb, hp⟩))), by have := hok5.i1 b hb; omega⟩
   refine ⟨.ag (CodeD.mk s5.params s5.regs bs).cells, FrzL.ag (.cons (Qi rfl) (.cons (Qi rfl) (.cons (Gr.frzM h5.gb (fun p hp => hun p (by
    simp only [LS.L, List.mem_append]
    exact .inr (.inl hp))) hbs1) .nil))), hK _ _ ⟨by simp, fun m hm _ => ?_⟩ hbs3⟩
   rw [Qa2e hm]; exact huse m hm
theorem Qa63 {fns : List Fn} {fl : Bool} (hp : PrOk fns) (hK : ∀ (cs : List CodeD) (H' : Heap), Upd H H' [] → 0 < cs.length → (∀ c ∈ cs, c.fits) → K (.ag [.sl false 3 (Qm cs)]) H') :
  Qp prog Q5v [.ag [.sl fl 3 (Qb1 fns)]] H K := by
 refine Q0 ?_
 refine Qb Qat Qa7n ?_
 refine Qa ?_
 simp only [go_sem]
 intro x2 hx2 H1 h1
 have kn := (Kn.start0 H).al hx2 h1
 refine Qa ?_
 simp only [go_sem]
 intro x3 hx3 H2 h2
 have kn := kn.al hx3 h2
 have hx32 := kn.l 1 rfl
 simp only [go_sem, Qaca, hx32]
 intro H3 h3
 have kn : Kn H H3 [] [(x2, .st [.sl true 3 []]), (x3, .st [.sl true 3 []])] := kn.stL 1 rfl h3
 refine Q4 ?_
 refine Qa ?_
 simp only [go_sem]
 refine Qh (Qc (Qu (fun n e1 H1 => ∃ (i : Nat) (cs : List CodeD) (c : C) (Lg : List (Nat × Obj)), n = fns.length - i ∧ i ≤ fns.length ∧ cs.length = i ∧ (∀ c ∈ cs, c.fits) ∧ Gr Lg 3 (Qm cs) c ∧ Kn H H1 [] ([(x2, .st [.sl true 3 []]), (x3, .st [c])] ++ Lg) ∧
  e1 = [(1, .c (.pp [.sl fl 3 (Qb1 fns)])), (2, .c (.ptr x2 0)), (3, .c (.ptr x3 0)), (4, .c (.int .i64 i))]) fns.length ?_ ?_))
 ·exact ⟨0, [], _, [], by omega, by omega, rfl, by simp, .nil 3, kn, rfl⟩
 ·rintro n e1 H1 ⟨i, cs, c, Lg, hn1, hi, hcl, hfit, hgr, kn, rfl⟩
  refine Q4 ?_
  refine Qa ?_
  simp only [go_sem, Qbb]
  intro hl
  simp only [LIM] at hl
  have hcow := hgr.isOw
  have hx31 := kn.l 1 rfl
  refine Qh (Qd rfl ?_ ?_)
  ·intro hc
   have hlt : i < fns.length := by simpa using hc
   have hm := List.getElem_mem hlt
   refine Qf ?_
   simp only [go_sem]
   refine Qh (Qc (Qbw ?_))
   simp only [go_sem, hx31, hcow]
   refine Qbb9 hlt (hp.par _ hm) (hp.ok _ hm) (by have := Qon hm; have := hp.size; omega) fun x H4 hu hxf => ?_
   have kn := kn.call0 hu
   have hx34 := kn.l 1 rfl
   simp only [go_sem, Qacc, hx34, hcow, CodeD.cells]
   refine kn.grow (B := [_, _]) (new := [x.cells]) hgr (.mk' _ _ _ _) (by intro r hr; simp only [List.mem_singleton] at hr; subst hr; rfl) (by simp only [Qs, LIM, List.length_cons, List.length_nil]; omega) fun y' H5 kn => ?_
   have hx35 := kn.l 1 rfl
   simp only [go_sem, Qacb, hx35]
   intro H6 h6
   have kn := kn.stL 1 rfl h6
   refine Qq ?_
   simp only [go_sem, X.next]
   refine ⟨Qo (by omega) (by omega), fns.length - (i + 1), by omega, i + 1, cs ++ [x], _, _, rfl, by omega, by simp [hcl], fun c' hc' => by
    rcases List.mem_append.1 hc' with h | h
    ·exact hfit c' h
    ·simp at h; subst h; exact hxf, ?_, kn, rfl⟩
   rw [Qamo]; exact .mk _ _ _ (by simp [Qs])
  ·intro hc
   have hge : fns.length ≤ i := by simpa using hc
   have hx21 := kn.l 0 rfl
   refine Qt ?_
   simp only [go_sem, X.next]
   refine Qa ?_
   simp only [go_sem, hx31, hx21, hcow]
   intro H2 h2
   have kn := kn.stL 0 rfl h2
   have hx22 := kn.l 0 rfl
   refine Qj ?_
   simp only [go_sem, Qz, Qac, Qaya, reduceIte, List.mem_singleton, forall_eq, RS.op, hx22, hcow]
   exact ⟨.ag [.sl false 3 (Qm cs)], FrzL.ag (.cons (hgr.frz (B := [_, _]) kn (Qbx _)) .nil), hK _ _ kn.fin (by have := hp.pos; omega) hfit⟩
end Go.AE.Y

namespace Go.AE.Y
open Go.Proofs.Tryz
variable {H : Heap} {K : V → Heap → Prop}
attribute [local instance] Classical.propDecidable
def Qv4 (q : CodeD) : Bool := decide (0 ≤ q.params ∧ q.params ≤ 3) && decide (q.params ≤ q.regs ∧ q.regs ≤ 300) && decide (1 ≤ (q.blocks.length : Int) ∧ (q.blocks.length : Int) ≤ 160)
def Quj (y : BlkD) : Nat := y.ins.length + y.phis.length
def Qfr {α : Type} (f : α → Nat) (l : List α) : Nat := (l.map f).sum
theorem Qbh {α : Type} {f : α → Nat} {l : List α} {i : Nat} (h : i < l.length) : Qfr f (l.take (i + 1)) = Qfr f (l.take i) + f l[i] := by
 rw [Qfr, Qfr, List.take_succ_eq_append_getElem h, List.map_append, List.sum_append]; simp
theorem Qr2 {α : Type} {f : α → Nat} {l : List α} (i : Nat) : Qfr f (l.take i) ≤ Qfr f l := by
 have : Qfr f l = Qfr f (l.take i) + Qfr f (l.drop i) := by rw [Qfr, Qfr, Qfr, ← List.sum_append, ← List.map_append, List.take_append_drop]
 omega
def Qe3 (q : CodeD) : Nat := Qfr Quj q.blocks
def Qac1 (cs : List CodeD) (k : Nat) (hk : k < cs.length) : Prop := Qv4 cs[k] = true ∧ ∀ (b : Nat) (h : b < cs[k].blocks.length), blkG cs k b cs[k] cs[k].blocks[b] = true
def Qbbe (cs : List CodeD) : Prop := (1 ≤ (cs.length : Int) ∧ (cs.length : Int) ≤ 4) ∧ (∀ (k : Nat) (h : k < cs.length), Qac1 cs k h) ∧ Qfr Qe3 cs ≤ 800
noncomputable def Qfs (cs : List CodeD) : Bool := decide (Qbbe cs)
theorem Qa8y {cs : List CodeD} (hfit : ∀ c ∈ cs, c.fits) (h : Qfs cs = true) : cs.length ≤ 4 ∧ 0 < cs.length ∧ ∀ c ∈ cs, c.gd := by
 obtain ⟨h1, h2, _⟩ := of_decide_eq_true h
 refine ⟨by omega, by omega, fun c hc => ?_⟩
 obtain ⟨k, hk, rfl⟩ := List.getElem_of_mem hc
 obtain ⟨g1, g2⟩ := h2 k hk
 simp only [Qv4, Bool.and_eq_true, decide_eq_true_eq] at g1
 refine ⟨by omega, by omega, fun b hb => ?_, fun b hb => hfit _ (List.getElem_mem hk) b hb⟩
 obtain ⟨i, hi, rfl⟩ := List.getElem_of_mem hb
 exact Qa13 (g2 i hi)
theorem Qsb {cs : List CodeD} (h : ¬ Qbbe cs) : Qfs cs = false := decide_eq_false h
theorem Qa8u {cs : List CodeD} {k j : Nat} (hk : k < cs.length) (hj : j < cs[k].blocks.length) (h : 800 < Qfr Qe3 (cs.take k) + Qfr Quj (cs[k].blocks.take j) + Quj cs[k].blocks[j]) : ¬ Qbbe cs := by
 rintro ⟨_, _, h3⟩
 have a1 := Qr2 (f := Qe3) (l := cs) (k + 1)
 rw [Qbh hk] at a1
 have a2 := Qr2 (f := Quj) (l := cs[k].blocks) (j + 1)
 rw [Qbh hj] at a2
 simp only [Qe3] at *
 omega
set_option maxHeartbeats 2000000 in
theorem Q0g {cs : List CodeD} {fl : Bool} (hfit : ∀ c ∈ cs, c.fits) (hK : ∀ (H' : Heap), Upd H H' [] → K (.c (.bool (Qfs cs))) H') :
  Qp prog Qce [.ag [.sl fl 3 (Qm cs)]] H K := by
 refine Q0 ?_
 refine Qb Qat Qadg ?_
 have retf : ∀ (b : Bool) (e : Env) (H' : Heap) (L : List (Nat × Obj)), Qfs cs = b → Kn H H' [] L → lk 2 e = .c (.bool b) → Qz Qc1 (fun x H' => ∃ x', FrzV H' (un H) x x' ∧ K x' (H'.frz (un H))) .ret e H' := by
  intro b e H' L hb kn h3
  simp only [go_sem, Qz, Qac, Qc1, List.mem_singleton, forall_eq, RS.op, h3]
  rw [← hb]; exact ⟨_, .c _ _ (Qi rfl), hK _ kn.fin⟩
 have kn := Kn.start0 H
 refine Qa ?_
 simp only [go_sem]
 refine Q4 ?_
 refine Qa ?_
 simp only [go_sem, Qs]
 intro hcl
 refine Qdc ?_
 simp only [go_sem, Qj5]
 refine Qh (Qd rfl ?_ ?_)
 ·intro hc
  refine Qa ?_
  simp only [go_sem]
  refine Qj ?_
  simp only [go_sem]
  exact retf false _ _ _ (Qsb fun hu => by have := of_decide_eq_false (Quv hc); exact this hu.1) kn (by simp [lk])
 intro hc
 have hc4 : cs.length ≤ 4 ∧ 0 < cs.length := by
  have : 1 ≤ (cs.length : Int) ∧ (cs.length : Int) ≤ 4 := by simpa using hc
  omega
 refine Qf ?_
 simp only [go_sem]
 refine Qa ?_
 simp only [go_sem]
 refine Q4 ?_
 refine Qa ?_
 simp only [go_sem]
 refine Qh (Qc (Qu (fun m e1 H1 => ∃ (k n : Nat), m = cs.length - k ∧ k ≤ cs.length ∧ n = Qfr Qe3 (cs.take k) ∧ n ≤ 800 ∧ (∀ (i : Nat) (hi : i < cs.length), i < k → Qac1 cs i hi) ∧ Kn H H1 [] [] ∧ e1 = [(1, .c (.pp [.sl fl 3 (Qm cs)])), (3, .c (.int .i64 n)), (4, .c (.int .i64 k))]) cs.length ?_ ?_))
 ·exact ⟨0, 0, by omega, by omega, rfl, by omega, fun _ _ h => by omega, kn, rfl⟩
 ·rintro m e1 H1 ⟨k, n, hm, hk, hns, hn, hgd, kn, rfl⟩
  refine Q4 ?_
  refine Qa ?_
  simp only [go_sem, Qs]
  intro hcl
  refine Qh (Qd rfl ?_ ?_)
  ·intro hc
   have hlt : k < cs.length := by simpa using hc
   refine Qf ?_
   simp only [go_sem]
   refine Qh (Qc ?_)
   refine Qa ?_
   simp only [go_sem, hlt, Qs, Q7 _ _ hlt, CodeD.cells]
   obtain ⟨q, hq⟩ : ∃ q, cs[k] = q := ⟨_, rfl⟩
   rw [hq]
   intro x5 hx5 H2 h2
   have kn := kn.al hx5 h2
   have hx52 := kn.l 0 rfl
   simp only [go_sem, Qj6, hx52]
   intro H3 h3
   have kn : Kn H H3 [] [(x5, .st [.int .i64 q.params, .int .i64 q.regs, .sl false 5 (Ql q.blocks)])] := kn.stL 0 rfl h3
   have hx53 := kn.l 0 rfl
   refine Q4 ?_
   refine Qa ?_
   simp only [go_sem, hx53]
   refine Qdc ?_
   simp only [go_sem, Qj7, hx53]
   have rest : ∀ (b : Bool) (E1 : Env), lk 1 E1 = .c (.pp [.sl fl 3 (Qm cs)]) → lk 3 E1 = .c (.int .i64 n) → lk 4 E1 = .c (.int .i64 k) → lk 5 E1 = .c (.ptr x5 0) → lk 42 E1 = .c (.bool b) → Qv4 q = (!b) →
     Qah prog (s_sp_UnitValid_6.seq Qj4) (X.inBlock 1 (X.sq prog Qej (X.next (fun e2 H2 => ∃ m_1, m_1 < m ∧ ∃ (k n : Nat), m_1 = cs.length - k ∧ k ≤ cs.length ∧ n = Qfr Qe3 (cs.take k) ∧ n ≤ 800 ∧ (∀ (i : Nat) (hi : i < cs.length), i < k → Qac1 cs i hi) ∧ Kn H H2 [] [] ∧ e2 = [(1, .c (.pp [.sl fl 3 (Qm cs)])), (3, .c (.int .i64 n)), (4, .c (.int .i64 k))])
      (X.inBlock 0 (X.sq prog Qek (Qz Qc1 (fun x H' => ∃ x', FrzV H' (un H) x x' ∧ K x' (H'.frz (un H))))))))) E1 H3 := by
    intro b E1 l1 l3 l4 l5 l42 hb
    refine Qh (Qd l42 ?_ ?_)
    ·intro hc2
     refine Qa ?_
     simp only [go_sem]
     refine Qj ?_
     simp only [go_sem, X.next]
     exact retf false _ _ _ (Qsb fun hu => by have := (hu.2.1 k hlt).1; rw [hq, hb, hc2] at this; simp at this) kn (by simp [lk])
    intro hc2
    rw [hc2] at hb
    have hb' := hb
    simp only [Qv4, Bool.not_false, Bool.and_eq_true, decide_eq_true_eq] at hb'
    obtain ⟨hr0, hr1, hb0, hbl⟩ : 0 ≤ q.regs ∧ q.regs ≤ 300 ∧ 0 < q.blocks.length ∧ q.blocks.length ≤ 160 := by omega
    refine Qf ?_
    simp only [go_sem]
    refine Qa ?_
    simp only [go_sem, l1, l3, l4, l5]
    refine Qc (Qu (fun m e1 H1 => ∃ (j n2 : Nat), m = q.blocks.length - j ∧ j ≤ q.blocks.length ∧ n2 = n + Qfr Quj (q.blocks.take j) ∧ n2 ≤ 800 ∧ (∀ (i : Nat) (hi : i < q.blocks.length), i < j → blkG cs k i q q.blocks[i] = true) ∧ Kn H H1 [] [(x5, .st [.int .i64 q.params, .int .i64 q.regs, .sl false 5 (Ql q.blocks)])] ∧
     e1 = [(1, .c (.pp [.sl fl 3 (Qm cs)])), (3, .c (.int .i64 n2)), (4, .c (.int .i64 k)), (5, .c (.ptr x5 0)), (6, .c (.int .i64 j))]) q.blocks.length ?_ ?_)
    ·exact ⟨0, n, by omega, by omega, rfl, hn, fun _ _ h => by omega, kn, rfl⟩
    ·rintro m2 e1 H4 ⟨j, n2, hm2, hj, hn2s, hn2, hnx, kn, rfl⟩
     have hx54 := kn.l 0 rfl
     refine Q4 ?_
     refine Qa ?_
     simp only [go_sem, hx54, Qn]
     intro hbl2
     refine Qh (Qd rfl ?_ ?_)
     ·intro hc3
      have hjl : j < q.blocks.length := by simpa using hc3
      refine Qf ?_
      simp only [go_sem]
      refine Qh (Qc ?_)
      have hqf := hfit _ (List.getElem_mem hlt)
      rw [hq] at hqf
      have hbf := hqf _ (List.getElem_mem hjl)
      have hss := Qbh (f := Quj) hjl
      have hcy : Quj q.blocks[j] = q.blocks[j].ins.length + q.blocks[j].phis.length := rfl
      refine Qan ?_
      simp only [go_sem, hx54, hjl, Qn, Q5 _ _ hjl, BlkD.cells, Qab, Qy]
      refine ⟨Qo (by omega) (by omega), Qo (by omega) (by omega), ?_⟩
      refine Qa ?_
      simp only [go_sem]
      have fin : ∀ (b3 : Bool) (E1 : Env) (H5 : Heap), (decide (n2 + Quj q.blocks[j] ≤ 800) && blkG cs k j q q.blocks[j]) = (!b3) → Kn H H5 [] [(x5, .st [.int .i64 q.params, .int .i64 q.regs, .sl false 5 (Ql q.blocks)])] → lk 1 E1 = .c (.pp [.sl fl 3 (Qm cs)]) →
        lk 3 E1 = .c (.int .i64 ((n2 + q.blocks[j].ins.length + q.blocks[j].phis.length : Nat) : Int)) → lk 4 E1 = .c (.int .i64 k) → lk 5 E1 = .c (.ptr x5 0) → lk 6 E1 = .c (.int .i64 j) → lk 75 E1 = .c (.bool b3) →
        Qah prog Qm1 (X.inBlock 3 (X.sq prog Qj3 (X.next (fun e2 H2 => ∃ m, m < m2 ∧ ∃ (j n2 : Nat), m = q.blocks.length - j ∧ j ≤ q.blocks.length ∧ n2 = n + Qfr Quj (q.blocks.take j) ∧ n2 ≤ 800 ∧ (∀ (i : Nat) (hi : i < q.blocks.length), i < j → blkG cs k i q q.blocks[i] = true) ∧ Kn H H2 [] [(x5, .st [.int .i64 q.params, .int .i64 q.regs, .sl false 5 (Ql q.blocks)])] ∧
         e2 = [(1, .c (.pp [.sl fl 3 (Qm cs)])), (3, .c (.int .i64 n2)), (4, .c (.int .i64 k)), (5, .c (.ptr x5 0)), (6, .c (.int .i64 j))])
         (X.inBlock 2 (X.inBlock 1 (X.sq prog Qej (X.next (fun e2 H2 => ∃ m_1, m_1 < m ∧ ∃ (k n : Nat), m_1 = cs.length - k ∧ k ≤ cs.length ∧ n = Qfr Qe3 (cs.take k) ∧ n ≤ 800 ∧ (∀ (i : Nat) (hi : i < cs.length), i < k → Qac1 cs i hi) ∧ Kn H H2 [] [] ∧ e2 = [(1, .c (.pp [.sl fl 3 (Qm cs)])), (3, .c (.int .i64 n)), (4, .c (.int .i64 k))])
         (X.inBlock 0 (X.sq prog Qek (Qz Qc1 (fun x H' => ∃ x', FrzV H' (un H) x x' ∧ K x' (H'.frz (un H))))))))))))) E1 H5 := by
       intro b3 E1 H5 hb3 kn l1 l3 l4 l5 l6 l75
       refine Qd l75 ?_ ?_
       ·intro hc4
        refine Qa ?_
        simp only [go_sem]
        refine Qj ?_
        simp only [go_sem, X.next]
        refine retf false _ _ _ (Qsb fun hu => ?_) kn (by simp [lk])
        rw [hc4] at hb3
        have hblk := (hu.2.1 k hlt).2 j (by rw [hq]; exact hjl)
        subst hq
        have hov : ¬ 800 < n2 + Quj cs[k].blocks[j] := fun ho => Qa8u hlt hjl (by omega) hu
        rw [hblk] at hb3
        simp at hb3
        omega
       ·intro hc4
        rw [hc4] at hb3
        simp only [Bool.not_false, Bool.and_eq_true, decide_eq_true_eq] at hb3
        refine Qf ?_
        simp only [go_sem]
        refine Qq ?_
        simp only [go_sem, X.next, l1, l3, l4, l5, l6]
        refine ⟨Qo (by omega) (by omega), q.blocks.length - (j + 1), by omega, j + 1, _, rfl, by omega, ?_, ?_, ?_, kn, rfl⟩
        ·rw [hss]; omega
        ·omega
        ·intro i hi hij
         by_cases hij2 : i < j
         ·exact hnx i hi hij2
         ·have : i = j := by omega
          subst this
          exact hb3.2
      refine ⟨fun hb1 => ?_, fun hb1 => ?_⟩
      ·refine Qa22 hlt (by rw [hq]; exact hjl) (by rw [hq]; exact hr0) (by rw [hq]; exact hr1) (by omega) (by rw [hq]; omega) fun H5 hu => ?_
       have kn := kn.call0 hu
       simp only [go_sem, Qem]
       refine fin _ _ _ ?_ kn (by simp [lk]) (by simp [lk]) (by simp [lk]) (by simp [lk]) (by simp [lk]) (by simp [lk]; rfl)
       subst hq
       by_cases ho : n2 + Quj cs[k].blocks[j] ≤ 800
       ·have ho' : ¬ 800 < (n2 : Int) + cs[k].blocks[j].ins.length + cs[k].blocks[j].phis.length := by simp only [Quj] at ho; omega
        simp [ho, ho']
       ·have ho' : 800 < (n2 : Int) + cs[k].blocks[j].ins.length + cs[k].blocks[j].phis.length := by simp only [Quj] at ho; omega
        simp [ho, ho']
      ·replace hb1 := Qg8 hb1
       simp only [go_sem, Qem, hb1]
       exact fin true _ _ (by simp at hb1; simp [hcy]; omega) kn (by simp [lk]) (by simp [lk]) (by simp [lk]) (by simp [lk]) (by simp [lk]) (by simp [lk])
     ·intro hc3
      refine Qt ?_
      simp only [go_sem, X.next]
      refine Qq ?_
      simp only [go_sem, X.next]
      have hjq : q.blocks.length ≤ j := by simpa using hc3
      have hjq : j = q.blocks.length := by omega
      refine ⟨Qo (by omega) (by omega), cs.length - (k + 1), by omega, k + 1, n2, rfl, by omega, ?_, hn2, ?_, kn.drop (A := []), rfl⟩
      ·rw [Qbh hlt, hq, hn2s, hns, hjq, List.take_length]; rfl
      ·intro i hi hik
       by_cases hik2 : i < k
       ·exact hgd i hi hik2
       ·have : i = k := by omega
        subst this
        subst hq
        exact ⟨by rw [hb]; rfl, fun b hbl => hnx b hbl (by omega)⟩
   refine ⟨fun hb1 => ?_, fun hb1 => ?_⟩
   ·refine Qdc ?_
    simp only [go_sem, Qel, hx53, Qn]
    intro hblim
    refine ⟨fun hb2 => ?_, fun hb2 => ?_⟩
    ·replace hb2 := Quv hb2
     refine Qdc ?_
     simp only [go_sem, Qcm]
     refine rest _ _ (by simp [lk]) (by simp [lk]) (by simp [lk]) (by simp [lk]) (by simp [lk]; rfl) ?_
     simp [Qv4]
    ·replace hb2 := Qg8 hb2
     simp only [go_sem, Qcm, hb2]
     exact rest true _ (by simp [lk]) (by simp [lk]) (by simp [lk]) (by simp [lk]) (by simp [lk]) (by simp at hb2; simp [Qv4]; omega)
   ·replace hb1 := Qg8 hb1
    simp only [go_sem, Qel, Qcm, hb1, hx53, Qn, cond_true]
    exact rest true _ (by simp [lk]) (by simp [lk]) (by simp [lk]) (by simp [lk]) (by simp [lk]) (by simp at hb1; simp [Qv4]; omega)
  ·intro hc
   refine Qt ?_
   simp only [go_sem, X.next]
   refine Qa ?_
   simp only [go_sem]
   refine Qj ?_
   have hkc : cs.length ≤ k := by simpa using hc
   refine retf true _ _ _ (decide_eq_true ⟨by omega, fun i hi => hgd i hi (by omega), ?_⟩) kn (by simp [lk])
   rw [List.take_of_length_le hkc] at hns
   omega
theorem Qaq3 {cs : List CodeD} {fl : Bool} (hfit : ∀ c ∈ cs, c.fits) (hK : ∀ (b : Bool) (H' : Heap), (b = true → cs.length ≤ 4 ∧ 0 < cs.length ∧ ∀ c ∈ cs, c.gd) → Upd H H' [] → K (.c (.bool b)) H') :
  Qp prog Qce [.ag [.sl fl 3 (Qm cs)]] H K := Q0g hfit fun H' hu => hK _ H' (Qa8y hfit) hu
end Go.AE.Y

namespace Go.AE.Y
open Go.Proofs.Tryz
variable {H : Heap} {K : V → Heap → Prop}
def UnitOk (cs : List CodeD) : Prop := 0 < cs.length ∧ cs.length ≤ 4 ∧ ∀ c ∈ cs, c.gd
theorem Qa2r {R : Rdr} {k : Nat} (hH : H R.l = R.o k) (hk : k + 7100000 ≤ 2^30)
  (hK : ∀ (cs : List CodeD) (H' : Heap) (k' : Nat), k < k' → k' ≤ k + 7050000 → Upd H H' [(R.l, R.o k')] → UnitOk cs → K (.ag [.sl false 3 (Qm cs)]) H') :
  Qp prog Qyd [.c (.ptr R.l 0)] H K := by
 refine Q0 ?_
 refine Qb Qat Qa29 ?_
 refine Qa ?_
 simp only [go_sem]
 intro x2 hx2 H1 h1
 have kn := (Kn.start1 hH (R.o_ne k)).al hx2 h1
 have tail : ∀ (E1 : Env) (H2 : Heap) (k1 : Nat) (L : List (Nat × Obj)), k < k1 → k1 ≤ k + 7000500 → Kn H H2 [(R.l, R.o k1)] ([(x2, .st [.sl true 3 []])] ++ L) → lk 0 E1 = .c (.ptr R.l 0) → lk 2 E1 = .c (.ptr x2 0) →
   Qah prog Q74 (Qz Qwg fun x H' => ∃ x', FrzV H' (un H) x x' ∧ K x' (H'.frz (un H))) E1 H2 := by
  intro E1 H2 k1 L hk1 hk2 kn l0 l2
  refine Qa ?_
  simp only [go_sem, l0, l2]
  refine Qaxv (kn.e 0 rfl) (by omega) fun cs H3 k2 hk3 hk4 hu hcs0 hcs3 hsm => ?_
  have kn := kn.callE 0 rfl hu (R.o_ne _)
  have hx2 := kn.l 0 rfl
  simp only [go_sem, Q05, hx2, l2]
  intro H4 h4
  have kn := kn.stL 0 rfl h4
  have hx2 := kn.l 0 rfl
  refine Qj ?_
  simp only [go_sem, Qz, Qac, Qwg, reduceIte, List.mem_singleton, forall_eq, RS.op, hx2]
  exact ⟨_, FrzL.ag (.cons (FrzR.same (Qbx cs)).sl .nil), hK cs _ k2 (by omega) (by omega) kn.fin ⟨hcs0, by omega, fun c hc => (hsm c hc).gd⟩⟩
 refine Q4 ?_
 refine Qa ?_
 simp only [go_sem]
 refine Qa7 (kn.e 0 rfl) (by omega) fun v H2 hv hu => ?_
 have kn := kn.callE 0 rfl hu (R.o_ne _)
 simp only [go_sem, Q01]
 refine Qh (Qd rfl ?_ ?_)
 ·intro hc
  refine Qa ?_
  simp only [go_sem]
  refine Qa6w (kn.e 0 rfl) (by omega) fun l H3 k1 hk1 hk2 hu hp => ?_
  have kn := kn.callE 0 rfl hu (R.o_ne _)
  simp only [go_sem, Q04]
  refine Qa63 hp fun cs H4 hu hcs0 hfit => ?_
  have kn := kn.call0 hu
  simp only [go_sem, Q03]
  intro x3 hx3 H5 h5
  have kn := kn.al hx3 h5
  have hx3 := kn.l 1 rfl
  simp only [go_sem, Q02, hx3]
  intro H6 h6
  have kn := kn.stL 1 rfl h6
  have hx3 := kn.l 1 rfl
  refine Qa ?_
  simp only [go_sem, hx3]
  refine Qaq3 hfit fun b H7 hb hu => ?_
  have kn := kn.call0 hu
  have hx3 := kn.l 1 rfl
  have hx2 := kn.l 0 rfl
  refine Qd rfl ?_ ?_
  ·intro hb1
   refine Qa ?_
   simp only [go_sem, hx3, hx2]
   intro H8 h8
   have kn := kn.stL 0 rfl h8
   have hx2 := kn.l 0 rfl
   refine Qj ?_
   simp only [go_sem, Qz, Qac, Qwg, reduceIte, List.mem_singleton, forall_eq, RS.op, hx2]
   obtain ⟨g1, g2, g3⟩ := hb hb1
   exact ⟨_, FrzL.ag (.cons (FrzR.same (Qbx cs)).sl .nil), hK cs _ k1 (by omega) (by omega) kn.fin ⟨g2, g1, g3⟩⟩
  ·intro hb1
   refine Qf ?_
   simp only [go_sem]
   exact tail _ _ k1 [(x3, .st [.sl false 3 (Qm cs)])] (by omega) (by omega) kn (by simp [lk]) (by simp [lk])
 ·intro hc
  refine Qf ?_
  simp only [go_sem]
  exact tail _ _ (k + 1) [] (by omega) (by omega) kn (by simp [lk]) (by simp [lk])
theorem Qa2q {R : Rdr} {k : Nat} (hH : H R.l = R.o k) (hk : k + 7200000 ≤ 2^30)
  (hK : ∀ (cs : List CodeD) (H' : Heap) (k' : Nat), k < k' → k' ≤ k + 7100000 → Upd H H' [(R.l, R.o k')] → UnitOk cs → K (.ag [.sl false 3 (Qm cs)]) H') :
  Qp prog Qyc [.c (.ptr R.l 0)] H K := by
 refine Q0 ?_
 refine Qb Qat Qa28 ?_
 refine Qa ?_
 simp only [go_sem]
 intro x2 hx2 H1 h1
 have kn := (Kn.start1 hH (R.o_ne k)).al hx2 h1
 refine Q4 ?_
 refine Qa ?_
 simp only [go_sem]
 refine Qa7 (kn.e 0 rfl) (by omega) fun v H2 hv hu => ?_
 have kn := kn.callE 0 rfl hu (R.o_ne _)
 simp only [go_sem, Q0y]
 refine Qh (Qd rfl ?_ ?_)
 ·intro hc
  refine Qa ?_
  simp only [go_sem]
  refine Qa6x (kn.e 0 rfl) (by omega) fun cs H3 k2 hk3 hk4 hu hcs0 hcs3 hgd => ?_
  have kn := kn.callE 0 rfl hu (R.o_ne _)
  have hx2 := kn.l 0 rfl
  simp only [go_sem, Q0z, hx2]
  intro H4 h4
  have kn := kn.stL 0 rfl h4
  have hx2 := kn.l 0 rfl
  refine Qj ?_
  simp only [go_sem, Qz, Qac, Q6m, reduceIte, List.mem_singleton, forall_eq, RS.op, hx2]
  exact ⟨_, FrzL.ag (.cons (FrzR.same (Qbx cs)).sl .nil), hK cs _ k2 (by omega) (by omega) kn.fin ⟨hcs0, by omega, hgd⟩⟩
 ·intro hc
  refine Qf ?_
  simp only [go_sem]
  refine Qa ?_
  simp only [go_sem]
  refine Qa2r (kn.e 0 rfl) (by omega) fun cs H3 k2 hk3 hk4 hu hok => ?_
  have kn := kn.callE 0 rfl hu (R.o_ne _)
  have hx2 := kn.l 0 rfl
  simp only [go_sem, Q00, hx2]
  intro H4 h4
  have kn := kn.stL 0 rfl h4
  have hx2 := kn.l 0 rfl
  refine Qj ?_
  simp only [go_sem, Qz, Qac, Q6m, reduceIte, List.mem_singleton, forall_eq, RS.op, hx2]
  exact ⟨_, FrzL.ag (.cons (FrzR.same (Qbx cs)).sl .nil), hK cs _ k2 (by omega) (by omega) kn.fin hok⟩
end Go.AE.Y

namespace Go.AE.Y
open Go.Proofs.Tryz
variable {H : Heap} {K : V → Heap → Prop}
theorem Qa2y {fl : Bool} {bs : List UInt8} (hK : ∀ (R : Rdr) (H' : Heap), H R.l = .none → H' = H.set R.l (R.o 0) → K (.c (.ptr R.l 0)) H') : Qp prog Qyj [.c (.sl fl 1 (Qbt bs))] H K := by
 refine Qb Qat Qa3g ?_
 refine Qa ?_
 simp only [go_sem]
 refine Q4 ?_
 refine Qa ?_
 simp only [go_sem, Qau]
 intro _
 have tail : ∀ (fl : Bool) (bs : List UInt8) (E1 : Env), lk 0 E1 = .c (.sl fl 1 (Qbt bs)) → Qah prog Q8m (Qz Q6p K) E1 H := by
  intro fl bs E1 l0
  refine Qa ?_
  simp only [go_sem, l0]
  intro l hl H' h'
  simp only [go_sem, Q1i]
  refine Qj ?_
  simp only [go_sem, Qz, Qac, Q6p, reduceIte, List.mem_singleton, forall_eq, RS.op]
  exact hK ⟨l, fl, bs⟩ H' hl h'
 refine Qh (Qd rfl ?_ ?_)
 ·intro hc
  have h2 : (2000 : Int) < bs.length := by simpa using hc
  refine Qq ?_
  simp only [go_sem, Qau]
  refine ⟨⟨by omega, by omega, by omega⟩, ?_⟩
  have ht : List.take 2000 (Qbt bs) = Qbt (bs.take 2000) := by simp [Qbt, List.map_take]
  rw [ht]
  exact tail _ (bs.take 2000) _ (by simp [lk]; rfl)
 ·intro hc
  refine Qf ?_
  exact tail fl bs _ (by simp [lk])
end Go.AE.Y

namespace Go.AE.Y
def fitsB (n : Nat) (nx : Nat → List Int) : Bool := (List.range n).all (fun i => (nx i).all fun x => decide (0 ≤ x ∧ x ≤ (n : Int) - 1)) && decide (0 < n)
def nxN (nx : Nat → List Int) (b : Nat) : List Nat := (nx b).map Int.toNat
inductive Dfs (g : Nat → List Nat) : List Nat → List Bool → List Nat → List Bool → List Nat → Prop
 | nil (S : List Bool) (o : List Nat) : Dfs g [] S o S o
 | skip {x : Nat} {xs : List Nat} {S S' : List Bool} {o o' : List Nat} : S.getD x false = true → Dfs g xs S o S' o' → Dfs g (x :: xs) S o S' o'
 | go {x : Nat} {xs : List Nat} {S S1 S' : List Bool} {o o1 o' : List Nat} : S.getD x false = false → Dfs g (g x) (S.set x true) o S1 o1 → Dfs g xs S1 (o1 ++ [x]) S' o' → Dfs g (x :: xs) S o S' o'
variable {g : Nat → List Nat} {xs : List Nat} {S S' S1 : List Bool} {o o' o1 : List Nat}
theorem Dfs.app (h : Dfs g xs S o S1 o1) : ∀ {ys : List Nat}, Dfs g ys S1 o1 S' o' → Dfs g (xs ++ ys) S o S' o' := by
 induction h with
 | nil S o => exact fun h => h
 | skip h1 h2 ih => exact fun h => .skip h1 (ih h)
 | go h1 h2 h3 ih1 ih2 => exact fun h => .go h1 h2 (ih2 h)
theorem Dfs.one {x : Nat} (h1 : S.getD x false = false) (h : Dfs g (g x) (S.set x true) o S1 o1) : Dfs g [x] S o S1 (o1 ++ [x]) := .go h1 h (.nil _ _)
theorem Dfs.len (h : Dfs g xs S o S' o') : S'.length = S.length := by
 induction h with
 | nil => rfl
 | skip _ _ ih => exact ih
 | go _ _ _ ih1 ih2 => rw [ih2, ih1, List.length_set]
theorem Q4x (S : List Bool) (x y : Nat) : (S.set x true).getD y false = (if y = x ∧ x < S.length then true else S.getD y false) := by
 simp only [List.getD_eq_getElem?_getD, List.getElem?_set]
 by_cases h : x = y
 ·subst h
  by_cases h2 : x < S.length
  ·simp [h2]
  ·simp [h2]
 ·have h' : ¬ y = x := fun hh => h hh.symm
  simp [h, h']
theorem Dfs.mono (h : Dfs g xs S o S' o') : ∀ x, S.getD x false = true → S'.getD x false = true := by
 induction h with
 | nil => exact fun _ h => h
 | skip _ _ ih => exact ih
 | go _ _ _ ih1 ih2 =>
  intro x hx
  refine ih2 x (ih1 x ?_)
  rw [Q4x]
  split
  ·rfl
  ·exact hx
def cnt (S : List Bool) : Nat := S.count true
theorem Qaq7 {x : Nat} (hx : x < S.length) (h : S.getD x false = false) : cnt (S.set x true) = cnt S + 1 := by
 induction S generalizing x with
 | nil => simp at hx
 | cons a S ih =>
  cases x with
  | zero =>
   simp at h; subst h
   simp [cnt]
  | succ x =>
   have := ih (x := x) (by simpa using hx) (by simpa using h)
   simp only [cnt, List.set_cons_succ, List.count_cons] at this ⊢
   omega
theorem Qbbt (S : List Bool) : cnt S ≤ S.length := List.count_le_length
theorem Dfs.count (h : Dfs g xs S o S' o') : (∀ x, x < S.length → ∀ y ∈ g x, y < S.length) → (∀ x ∈ xs, x < S.length) → o'.length + cnt S = o.length + cnt S' := by
 induction h with
 | nil => intros; rfl
 | skip _ _ ih => exact fun h1 h2 => ih h1 fun x hx => h2 x (List.mem_cons_of_mem _ hx)
 | @go x xs S S1 S' o o1 o' h1 h2 h3 ih1 ih2 =>
  intro hg hxs
  have hx := hxs x List.mem_cons_self
  have e1 := ih1 (by simpa using hg) (by simpa using hg x hx)
  have hl := h2.len
  rw [List.length_set] at hl
  have e2 := ih2 (by rw [hl]; exact hg) (by rw [hl]; exact fun y hy => hxs y (List.mem_cons_of_mem _ hy))
  rw [Qaq7 hx h1] at e1
  simp only [List.length_append, List.length_cons, List.length_nil] at e2
  omega
theorem Dfs.all (h : Dfs g xs S o S' o') : ∀ P : Nat → Prop, (∀ x, P x → ∀ y ∈ g x, P y) → (∀ x ∈ xs, P x) → (∀ x ∈ o, P x) → ∀ x ∈ o', P x := by
 induction h with
 | nil => exact fun P _ _ h => h
 | skip _ _ ih => exact fun P h1 h2 h3 => ih P h1 (fun x hx => h2 x (List.mem_cons_of_mem _ hx)) h3
 | go h1 h2 h3 ih1 ih2 =>
  intro P hg hxs ho
  have hx := hxs _ List.mem_cons_self
  refine ih2 P hg (fun y hy => hxs y (List.mem_cons_of_mem _ hy)) fun y hy => ?_
  rcases List.mem_append.1 hy with hy | hy
  ·exact ih1 P hg (hg _ hx) ho y hy
  ·simp at hy; subst hy; exact hx
end Go.AE.Y

namespace Go.AE.Y
open Go.Proofs.Tryz
variable {H : Heap} {K : V → Heap → Prop}
structure GRd (H : Heap) (c : C) (rows : List (List C)) (nx : Nat → List Int) : Prop where
 s : Slc H 5 rows c
 ow : c.isOw = false
 no : ∀ r ∈ rows, noOw r = true
 x : ∀ i, i < rows.length → ∃ a1 a2 a3 a4 fl, rows.getD i [] = [a1, a2, a3, a4, .sl fl 1 (Qe (nx i))]
theorem GRd.keep {c : C} {rows : List (List C)} {nx : Nat → List Int} {H' : Heap} {E L : List (Nat × Obj)} (h : GRd H c rows nx) (kn : Kn H H' E L) (hE : ∀ l a b d, c = .vsl l a b d → l ∉ E.map Prod.fst) : GRd H' c rows nx := ⟨h.s.keep kn hE, h.ow, h.no, h.x⟩
theorem GRd.keep0 {c : C} {rows : List (List C)} {nx : Nat → List Int} {H' : Heap} {L : List (Nat × Obj)} (h : GRd H c rows nx) (kn : Kn H H' [] L) : GRd H' c rows nx := h.keep kn (by simp)
def gnx (q : CodeD) : Nat → List Int := fun i => (q.blocks.map BlkD.next).getD i []
theorem Q4y (H : Heap) (q : CodeD) (fl : Bool) : GRd H (.sl fl 5 (Ql q.blocks)) (Ql q.blocks) (gnx q) := by
 refine ⟨.mk' _ _ _ _, rfl, Qaq5 _, fun i h => ?_⟩
 rw [Qn] at h
 rw [Q5 _ _ h]
 have : gnx q i = q.blocks[i].next := by simp [gnx, List.getD_eq_getElem?_getD, h]
 exact ⟨.sl false 2 (Q1 q.blocks[i].phis), .sl false 4 (Qaj q.blocks[i].ins), .int .i64 q.blocks[i].jump, .int .i64 q.blocks[i].on, false, by rw [this]; rfl⟩
end Go.AE.Y

namespace Go.AE.Y
open Go.Proofs.Tryz
def Qv (S : List Bool) : List (List C) := S.map fun b => [.bool b]
theorem Qaa (S : List Bool) : (Qv S).length = S.length := by simp [Qv]
theorem Qav (S : List Bool) (i : Nat) (h : i < S.length) : (Qv S).getD i [] = [.bool (S.getD i false)] := by
 simp [Qv, List.getD_eq_getElem?_getD, h]
theorem Qea (S : List Bool) (i : Nat) (b : Bool) : (Qv S).set i [.bool b] = Qv (S.set i b) := by simp [Qv, List.map_set]
theorem Qn6 (S : List Bool) : ∀ r ∈ Qv S, noOw r = true := by intro r hr; obtain ⟨x, _, rfl⟩ := List.mem_map.1 hr; rfl
def Qbp (l : List Nat) : List (List C) := Qe (l.map Int.ofNat)
theorem Qsa (l : List Nat) : (Qbp l).length = l.length := by simp [Qbp, Qg]
theorem Qgd (l : List Nat) : ∀ r ∈ Qbp l, noOw r = true := Qx _
end Go.AE.Y

