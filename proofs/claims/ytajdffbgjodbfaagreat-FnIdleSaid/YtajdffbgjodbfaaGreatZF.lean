/- Part 6 of the proof: the engine, codes, walks and plain laws, each named where it stands. -/
import Derived.Test.YtajdffbgjodbfaaGreatZE
import Derived.Below
import Derived.OpenShut
import Derived.ProofKit
open Nat (reduceEqDiff reduceAdd reduceLeDiff reduceLT)
set_option linter.unusedVariables false
set_option linter.unusedSimpArgs false
set_option maxRecDepth 4000
namespace Go.AE.Y
attribute [local go_sem] cond_true cond_false Bool.not_true Bool.not_false
open Go.Proofs.Tryz
variable {H H0 F : Heap} {K : V → Heap → Prop} {E L : List (Nat × Obj)}
def Qr9 (ss : List SetO) (b : Nat) : List Nat := (ss[b]?.map SetO.ks).getD []
theorem Qbad {ss : List SetO} {b : Nat} (h : b < ss.length) : Qr9 ss b = ss[b].ks := by simp [Qr9, h]
theorem Qa6r {ss : List SetO} {b : Nat} {s : SetO} (h : b < ss.length) : Qr9 (ss.set b s) = fun c => if c = b then s.ks else Qr9 ss c := by
 funext c
 by_cases hc : c = b
 ·subst hc; simp [Qr9, h]
 ·simp only [Qr9, hc, if_false]; rw [List.getElem?_set_ne (fun e => hc e.symm)]
set_option maxHeartbeats 4000000 in
theorem Qajc {q : CodeD} {fl : Bool} (ho : q.ok) (kn : Kn H0 H E L)
  (hK : ∀ l yi yp ss pr H', imOk q ss pr → (∀ b, b < q.blocks.length → ∀ r, tabS ss b r ↔ (Q3 q).LI b r) → Kn H0 H' E (imE q fl l yi yp ss pr ++ L) → K (.c (.ptr l 0)) H') :
  Qp prog Qex [.ag [.int .i64 q.params, .int .i64 q.regs, .sl fl 5 (Ql q.blocks)]] H K := by
 have hr0 := ho.r0
 have hr1 := ho.r1
 have hb0 := ho.b0
 have hb1 := ho.b1
 have hfit := ho.fitsF
 have hFn : (Q3 q).n = q.blocks.length := rfl
 obtain ⟨n, hn⟩ : ∃ n, q.blocks.length = n := ⟨_, rfl⟩
 refine Qb Qat Qarr ?_
 refine Qa ?_
 simp only [go_sem]
 refine Qan ?_
 simp only [go_sem, Qn, hn]
 refine ⟨by simp only [LIM]; omega, fun yi hyi H1 h1 => ?_⟩
 have kn := kn.al hyi h1
 simp only [go_sem, Qto]
 intro l hl H2 h2
 have kn := kn.al hl h2
 simp only [go_sem, Qtn]
 refine Q4 ?_
 refine Qa ?_
 simp only [go_sem, Qn, hn]
 intro _
 refine Qh (Qc (Qu (fun m e1 H1 => ∃ (i : Nat) (cp : C) (Lg : List (Nat × Obj)) (pr : List (List C)), m = n - i ∧ i ≤ n ∧ pr.length = i ∧ (∀ b, b < i → ∃ fl, pr.getD b [] = [.sl fl 1 (Qe (Qas (gnx q) (b : Int) n))]) ∧ (∀ r ∈ pr, noOw r = true) ∧ Gr Lg 1 pr cp ∧
  Kn H0 H1 E (([(l, .st [.int .i64 q.params, .int .i64 q.regs, .sl fl 5 (Ql q.blocks), .vsl yi 1 0 n, cp]), (yi, .vec 1 (List.replicate n [.mnil]))] ++ L) ++ Lg) ∧
  e1 = [(1, .c (.pp [.int .i64 q.params, .int .i64 q.regs, .sl fl 5 (Ql q.blocks)])), (3, .c (.ptr l 0)), (19, .c (.int .i64 n)), (20, .c (.int .i64 i))]) n ?_ ?_))
 ·refine ⟨0, _, [], [], by omega, by omega, rfl, fun b hb => by omega, by simp, .nil 1, ?_, rfl⟩
  refine kn.perm (Qr fun f hf h0 hc hp => ?_)
  have e1 := hc (l, .st [.int .i64 q.params, .int .i64 q.regs, .sl fl 5 (Ql q.blocks), .vsl yi 1 0 n, .sl true 1 []]) [(yi, .vec 1 (List.replicate n [.mnil]))]
  simp only [hf, e1, h0]; omega
 ·clear kn h1 h2 hl hyi
  rintro m e1 H3 ⟨i, cp, Lg, pr, hm, hi, hpl, hpr, hpo, hgr, kn, rfl⟩
  have hcw := hgr.isOw
  refine Qa ?_
  simp only [go_sem]
  refine Qh (Qd rfl ?_ ?_)
  ·intro hc
   have hlt : i < n := by simpa using hc
   have hltq : i < q.blocks.length := by omega
   have hl := kn.l 0 rfl
   refine Qf ?_
   try simp only [go_sem]
   refine Qh (Qc ?_)
   refine Qa ?_
   simp only [go_sem]
   refine Qbw ?_
   simp only [go_sem, hl, hcw]
   refine Qamf (rows := Ql q.blocks) (nx := gnx q) (Q4y _ q fl) fun fl' H4 hu => ?_
   have kn := kn.call0 hu
   have hl := kn.l 0 rfl
   have hin : (decide (0 ≤ (i : Int)) && decide ((i : Int) ≤ ((Ql q.blocks).length : Int) - 1)) = true := by rw [Qn]; simp; omega
   rw [Q6e, if_pos hin, Qn, hn]
   simp only [go_sem, Qtq, hl, hcw]
   refine kn.growR hgr (.mk' _ _ _ _) (by intro r hr; simp at hr; subst hr; rfl) (by simp only [LIM, List.length_cons, List.length_nil]; omega) fun cp2 Lg2 H5 hgr2 hcw2 kn => ?_
   have hl := kn.l 0 rfl
   simp only [go_sem, Qtp, hl, hcw2]
   intro H6 h6
   have kn := kn.stL 0 rfl h6
   refine Qq ?_
   simp only [go_sem, X.next]
   refine ⟨Qo (by omega) (by omega), n - (i + 1), by omega, i + 1, cp2, Lg2, pr ++ [[.sl fl' 1 (Qe (Qas (gnx q) (i : Int) n))]], rfl, by omega, by simp [hpl], fun b hb => ?_, ?_, hgr2, kn, rfl⟩
   ·by_cases hbi : b < i
    ·obtain ⟨fl2, h⟩ := hpr b hbi
     refine ⟨fl2, ?_⟩
     rw [← h]
     simp [List.getD_eq_getElem?_getD, List.getElem?_append_left (show b < pr.length by omega)]
    ·have : b = i := by omega
     subst this
     refine ⟨fl', ?_⟩
     rw [List.getD_eq_getElem?_getD, List.getElem?_append_right (by omega)]
     simp [hpl]
   ·intro r hr
    rcases List.mem_append.1 hr with hr | hr
    ·exact hpo r hr
    ·simp at hr; subst hr; rfl
  ·intro hc
   have hin : i = n := by have : n ≤ i := (by simpa using hc); omega
   subst hin
   obtain ⟨yp, hyp, hLg⟩ : ∃ yp, cp = .vsl yp 1 0 i ∧ Lg = [(yp, .vec 1 pr)] := by
    rcases hgr with ⟨_, h, _⟩ | ⟨y, h1, h2⟩
    ·rw [h] at hpl; simp at hpl; omega
    ·exact ⟨y, by rw [h1, hpl], h2⟩
   have hset0 : Qr0 (List.replicate i (SetO.mk .mnil [] [])) = List.replicate i [.mnil] := by simp [Qr0]
   have hfm0 : (List.replicate i (SetO.mk .mnil [] [])).flatMap SetO.lg = [] := by
    rw [List.flatMap_eq_nil_iff]; intro x hx; rw [List.eq_of_mem_replicate hx]
   have kn : Kn H0 H3 E (imE q fl l yi yp (List.replicate i (SetO.mk .mnil [] [])) pr ++ L) := by
    refine kn.perm (Qr fun f hf h0 hc hp => ?_)
    rw [hLg, hyp]
    simp only [imE, hset0, hfm0, hn, hf, h0]
    have e1 := hc (l, .st [.int .i64 q.params, .int .i64 q.regs, .sl fl 5 (Ql q.blocks), .vsl yi 1 0 i, .vsl yp 1 0 i]) [(yi, .vec 1 (List.replicate i [.mnil])), (yp, .vec 1 pr)]
    have e2 := hc (l, .st [.int .i64 q.params, .int .i64 q.regs, .sl fl 5 (Ql q.blocks), .vsl yi 1 0 i, .vsl yp 1 0 i]) [(yi, .vec 1 (List.replicate i [.mnil]))]
    have e3 := hc (yi, .vec 1 (List.replicate i [.mnil])) [(yp, .vec 1 pr)]
    omega
   have hks0 : Qr9 (List.replicate i (SetO.mk .mnil [] [])) = fun _ => [] := by
    funext b
    simp only [Qr9]
    rw [List.getElem?_replicate]; split <;> rfl
   have hinv : ImInv (Q3 q) q.regs.toNat (Qr9 (List.replicate i (SetO.mk .mnil [] []))) := by rw [hks0]; exact .start
   have him : imOk q (List.replicate i (SetO.mk .mnil [] [])) pr := by
    refine ⟨by simp [hn], fun s hs => ?_, by omega, fun b hb => by rw [hn]; exact hpr b (by omega)⟩
    rw [List.eq_of_mem_replicate hs]
    exact ⟨by simp, by simp, .inl ⟨rfl, rfl, rfl⟩⟩
   generalize List.replicate i (SetO.mk .mnil [] []) = ss at kn hinv him
   clear hset0 hfm0 hks0 hLg hyp hgr hcw hpr hpl hpo hc hm hi
   refine Qt ?_
   simp only [go_sem, X.next]
   refine Q4 ?_
   refine Qa ?_
   simp only [go_sem]
   refine Qh (Qc (Qu (fun m e1 H1 => ∃ (ss : List SetO) (a : Bool), m = (if a = true then i * q.regs.toNat + 1 - tot i (Qr9 ss) else 0) ∧ imOk q ss pr ∧ ImInv (Q3 q) q.regs.toNat (Qr9 ss) ∧ (a = false → ∀ b, b < i → ∀ r, (Q3 q).inT (asS (Qr9 ss)) b r → asS (Qr9 ss) b r) ∧
    Kn H0 H1 E (imE q fl l yi yp ss pr ++ L) ∧
    lk 1 e1 = .c (.pp [.int .i64 q.params, .int .i64 q.regs, .sl fl 5 (Ql q.blocks)]) ∧ lk 3 e1 = .c (.ptr l 0) ∧ lk 5 e1 = .c (.bool a)) (i * q.regs.toNat + 1 - tot i (Qr9 ss)) ?_ ?_))
   ·exact ⟨ss, true, rfl, him, hinv, fun h => by simp at h, kn, rfl, rfl, rfl⟩
   ·clear hinv him kn
    clear ss
    rintro m e1 H4 ⟨ss, a, hm, him, hinv, hcl, kn, l1, l3, l5⟩
    have htb := hinv.bound
    rw [hFn, hn] at htb
    refine Q4 ?_
    refine Qa ?_
    simp only [go_sem, l1, l3, l5]
    refine Qh (Qd rfl ?_ ?_)
    ·intro hat
     rw [hat, if_pos rfl] at hm
     refine Qf ?_
     try simp only [go_sem]
     refine Qc ?_
     refine Qa ?_
     simp only [go_sem]
     refine Qa ?_
     simp only [go_sem, Qn, hn]
     intro _
     refine ⟨Qo (by omega) (by omega), ?_⟩
     clear hcl
     refine Qc (Qu (fun m1 e1 H1 => ∃ (k : Nat) (j : Int) (ss1 : List SetO) (a : Bool), m1 = k ∧ k ≤ i ∧ j = (k : Int) - 1 ∧ imOk q ss1 pr ∧ ImInv (Q3 q) q.regs.toNat (Qr9 ss1) ∧ tot i (Qr9 ss) ≤ tot i (Qr9 ss1) ∧
      (a = true → tot i (Qr9 ss) < tot i (Qr9 ss1)) ∧ (a = false → ∀ b, k ≤ b → b < i → ∀ r, (Q3 q).inT (asS (Qr9 ss1)) b r → asS (Qr9 ss1) b r) ∧
      Kn H0 H1 E (imE q fl l yi yp ss1 pr ++ L) ∧
      e1 = [(1, .c (.pp [.int .i64 q.params, .int .i64 q.regs, .sl fl 5 (Ql q.blocks)])), (3, .c (.ptr l 0)), (5, .c (.bool a)), (6, .c (.int .i64 j))]) i ?_ ?_)
     ·exact ⟨i, _, ss, false, rfl, Nat.le_refl _, rfl, him, hinv, Nat.le_refl _, fun h => by simp at h, fun _ b h1 h2 => by omega, kn, rfl⟩
     ·generalize hT0 : tot i (Qr9 ss) = T0 at *
      clear hinv him kn hT0
      clear ss
      rintro m1 e1 H5 ⟨k, j, ss, a, rfl, hk, hjk, him, hinv, htot, htt, htf, kn, rfl⟩
      have htb2 := hinv.bound
      rw [hFn, hn] at htb2
      refine Q4 ?_
      refine Qa ?_
      simp only [go_sem]
      refine Qh (Qd rfl ?_ ?_)
      ·intro hc
       have hge : 0 ≤ j := by simpa using hc
       obtain ⟨b, rfl⟩ : ∃ b, m1 = b + 1 := ⟨m1 - 1, by omega⟩
       have hj : j = (b : Int) := by omega
       subst hj
       have hbn : b < i := by omega
       have hbq : b < q.blocks.length := by omega
       have hsl := him.l
       have hbs : b < ss.length := by omega
       obtain ⟨s, hs⟩ : ∃ s, ss[b] = s := ⟨_, rfl⟩
       have hsm : s ∈ ss := by rw [← hs]; exact List.getElem_mem hbs
       have hso := him.s s hsm
       obtain ⟨y, hy⟩ : ∃ y, q.blocks[b] = y := ⟨_, rfl⟩
       have hyo : y.ok q b := by rw [← hy]; exact ho.bs b hbq
       have hil : y.ins.length ≤ 800 ∧ y.phis.length ≤ 800 := by rw [← hy]; exact ho.il b hbq
       have hph : (Q3 q).ph b = y.phis.map fun p => p.to.toNat := by rw [Qaxq hbq, hy]
       have hbF : b < (Q3 q).n := hbq
       refine Qf ?_
       try simp only [go_sem]
       refine Qdm (fun e2 H2 => ∃ (ss2 : List SetO) (a2 : Bool), imOk q ss2 pr ∧ ImInv (Q3 q) q.regs.toNat (Qr9 ss2) ∧ tot i (Qr9 ss) ≤ tot i (Qr9 ss2) ∧
        (a2 = true → a = true ∨ tot i (Qr9 ss) < tot i (Qr9 ss2)) ∧ (a2 = false → a = false ∧ ss2 = ss ∧ ∀ r, (Q3 q).inT (asS (Qr9 ss)) b r → asS (Qr9 ss) b r) ∧
        Kn H0 H2 E (imE q fl l yi yp ss2 pr ++ L) ∧
        lk 1 e2 = .c (.pp [.int .i64 q.params, .int .i64 q.regs, .sl fl 5 (Ql q.blocks)]) ∧ lk 3 e2 = .c (.ptr l 0) ∧ lk 5 e2 = .c (.bool a2) ∧ lk 6 e2 = .c (.int .i64 b)) ?_ ?_
       ·intro Q hnr _ _
        refine Qc ?_
        refine Qa ?_
        simp only [go_sem]
        refine Q4v (F := H5) (i := -1) ho hbq (by omega) (by omega) him kn.mid fun M ver ks H6 hnd hlt hks k2 => ?_
        have kn := kn.comp k2 rfl
        simp only [go_sem, Qtr]
        refine Q4 ?_
        refine Qa ?_
        simp only [go_sem, hbq, Qn, Q5 _ _ hbq, hy, BlkD.cells, Qy]
        intro hpl
        simp only [LIM] at hpl
        obtain ⟨B, hB⟩ : ∃ B, imE q fl l yi yp ss pr ++ L = B := ⟨_, rfl⟩
        rw [hB] at kn
        refine Qh (Qc (Qu (fun m2 e1 H1 => ∃ (i2 ver : Nat) (ks2 : List Nat), m2 = y.phis.length - i2 ∧ i2 ≤ y.phis.length ∧ ks2.Nodup ∧ (∀ x ∈ ks2, x < q.regs.toNat) ∧ (∀ r, r ∈ ks2 ↔ r ∈ ks ∧ r ∉ ((Q3 q).ph b).take i2) ∧ Kn H0 H1 E (B ++ [(M, .map ver (Qai ks2))]) ∧
         e1 = [(1, .c (.pp [.int .i64 q.params, .int .i64 q.regs, .sl fl 5 (Ql q.blocks)])), (3, .c (.ptr l 0)), (5, .c (.bool a)), (6, .c (.int .i64 b)), (7, .c (.mp M)), (53, .c (.sl false 2 (Q1 y.phis))), (54, .c (.int .i64 y.phis.length)), (55, .c (.int .i64 i2))]) y.phis.length ?_ ?_))
        ·exact ⟨0, ver, ks, by omega, by omega, hnd, hlt, fun r => by simp, kn, rfl⟩
        ·clear kn
         rintro m2 e1 H7 ⟨i2, ver2, ks2, hm2, hi2, hnd2, hlt2, hks2, kn, rfl⟩
         refine Qa ?_
         simp only [go_sem]
         refine Qh (Qd rfl ?_ ?_)
         ·intro hc2
          have hl2 : i2 < y.phis.length := by simpa using hc2
          obtain ⟨p, hp⟩ : ∃ p, y.phis[i2] = p := ⟨_, rfl⟩
          have hpm : p ∈ y.phis := by rw [← hp]; exact List.getElem_mem hl2
          obtain ⟨hv, hvl⟩ := (hyo.pto p hpm).nat
          have htk3 : ((Q3 q).ph b).take (i2 + 1) = ((Q3 q).ph b).take i2 ++ [p.to.toNat] := by
           rw [List.take_succ_eq_append_getElem (by rw [hph, List.length_map]; exact hl2)]
           simp [hph, hp]
          generalize hr : p.to.toNat = r at *
          refine Qf ?_
          try simp only [go_sem]
          refine Qh (Qc ?_)
          refine Qa ?_
          simp only [go_sem, hl2, Qy, Qa2 _ _ hl2, PhiD.cells, hp]
          intro x9 hx9 H8 h8
          have kn := kn.al hx9 h8
          have hx9 : H8 x9 = .st [.int .i64 0, .sl true 1 []] := (kn.get (x9, .st [.int .i64 0, .sl true 1 []]) (by simp)).1
          simp only [go_sem, Qts, hx9]
          intro H9 h9
          have kn : Kn H0 H9 E ((B ++ [(M, .map ver2 (Qai ks2))]) ++ [(x9, .st [.int .i64 p.to, .sl false 1 (Qe p.args)])]) := by
           have := kn.stL (B ++ [(M, Obj.map ver2 (Qai ks2))]).length (x := x9) (o := .st [.int .i64 0, .sl true 1 []]) (by simp) h9
           simpa using this
          have hx9 : H9 x9 = .st [.int .i64 p.to, .sl false 1 (Qe p.args)] := (kn.get (x9, .st [.int .i64 p.to, .sl false 1 (Qe p.args)]) (by simp)).1
          have kn := kn.drop
          have hM : H9 M = .map ver2 (Qai ks2) := (kn.get (M, .map ver2 (Qai ks2)) (by simp)).1
          refine Qq ?_
          simp only [go_sem, hx9, hM, hv, Qcf, Qgc, Qahi]
          intro H10 h10
          have kn : Kn H0 H10 E (B ++ [(M, .map (ver2 + 1) (Qai (ks2.erase r)))]) := by
           have := kn.stL B.length (x := M) (o := .map ver2 (Qai ks2)) (by simp) h10
           simpa using this
          refine Qq ?_
          simp only [go_sem, X.next]
          refine ⟨Qo (by omega) (by omega), y.phis.length - (i2 + 1), by omega, i2 + 1, ver2 + 1, ks2.erase r, rfl, by omega, hnd2.erase _, Qaxn hlt2, fun z => ?_, kn, rfl⟩
          rw [Qahz hnd2, hks2, htk3]
          simp only [List.mem_append, List.mem_singleton, not_or, and_assoc]
         ·intro hc2
          have hge2 : y.phis.length ≤ i2 := by simpa using hc2
          have hks3 : ∀ r, r ∈ ks2 ↔ (Q3 q).inT (asS (Qr9 ss)) b r := fun r => by
           rw [hks2, hks, List.take_of_length_le (by rw [hph, List.length_map]; exact hge2)]; rfl
          have hkl := Qbz hnd2 hlt2
          subst hB
          obtain ⟨hl, hyi, hyp⟩ := Qyn (kn.drop).mid
          have hM : H7 M = .map ver2 (Qai ks2) := (kn.get (M, .map ver2 (Qai ks2)) (by simp)).1
          have htks : (Qr0 ss).take i = Qr0 ss := List.take_of_length_le (by rw [Qj8]; omega)
          have hkb : Qr9 ss b = s.ks := by rw [Qbad hbs, hs]
          have hsi : ss.length = i := by omega
          refine Qt ?_
          simp only [go_sem, X.next]
          have hsc : Quw H7 s.c ∧ Qao H7 s.c = Qai s.ks ∧ s.c.isOw = false := by
           refine ⟨?_, ?_, hso.isOw⟩ <;> rcases hso.m with ⟨h1, _, h2⟩ | ⟨N, v, h1, h2⟩
           ·rw [h1]; trivial
           ·have := Q5x (kn.drop).mid hsm h2
            rw [h1]; simp only [Quw, this]
           ·rw [h1, h2]; rfl
           ·have := Q5x (kn.drop).mid hsm h2
            rw [h1]; simp only [Qao, this]
          obtain ⟨hok1, hen1, hcw1⟩ := hsc
          have hok1 := eq_true hok1
          have hslen := hso.len
          have hokM : Quw H7 (.mp M) = True := by simp only [Quw, hM]
          have henM : Qao H7 (.mp M) = Qai ks2 := by simp only [Qao, hM]
          refine Qan ?_
          simp only [go_sem, hl, hyi, hM, htks, Qj8, Qsg _ _ hbs, hs, hbn, hn, hsi, hok1, hen1, hcw1, hokM, henM, Qgc, Nat.zero_add, Nat.le_refl]
          refine Qd rfl ?_ ?_
          ·intro hc3
           have hne : ¬ ks2.length = (Qr9 ss b).length := by rw [hkb]; simp at hc3; omega
           obtain ⟨g1, g2⟩ := hinv.step hfit hbF hnd2 hlt2 hks3 hne
           rw [hFn, hn] at g2
           have hks' := Qa6r (s := ⟨.mp M, [(M, .map ver2 (Qai ks2))], ks2⟩) hbs
           refine Qq ?_
           simp only [go_sem, hl, hyi, htks, Qj8, Qsg _ _ hbs, hs, hbn, hn, hsi, Nat.zero_add, Nat.le_refl]
           intro H8 h8
           have hrow : (Qr0 ss).set b [.mp M] = Qr0 (ss.set b ⟨.mp M, [(M, .map ver2 (Qai ks2))], ks2⟩) := by simp [Qr0, List.map_set]
           rw [hrow] at h8
           have k5 : Kn H0 H8 E (((([(l, .st [.int .i64 q.params, .int .i64 q.regs, .sl fl 5 (Ql q.blocks), .vsl yi 1 0 q.blocks.length, .vsl yp 1 0 q.blocks.length]), (yi, .vec 1 (Qr0 (ss.set b ⟨.mp M, [(M, .map ver2 (Qai ks2))], ks2⟩))), (yp, .vec 1 pr)] ++ ss.flatMap SetO.lg) ++ L) ++ [(M, .map ver2 (Qai ks2))])) := kn.stL 1 (x := yi) (o := .vec 1 (Qr0 ss)) rfl h8
           have kn : Kn H0 H8 E ((imE q fl l yi yp (ss.set b ⟨.mp M, [(M, .map ver2 (Qai ks2))], ks2⟩) pr ++ L) ++ ss[b].lg) := by
            refine k5.perm (Qr fun f hf h0 hc hp => ?_)
            have e1 := hp _ _ (Qf0 SetO.lg ss b hbs)
            have e2 := hp _ _ (Qep SetO.lg ss b ⟨.mp M, [(M, .map ver2 (Qai ks2))], ks2⟩ hbs)
            simp only [hf] at e1 e2
            simp only [imE, hf]
            omega
           have kn := kn.drop
           simp only [go_sem, Qpa]
           refine hnr _ _ ⟨ss.set b ⟨.mp M, [(M, .map ver2 (Qai ks2))], ks2⟩, true, ⟨by rw [List.length_set]; exact hsl, fun s2 hs2 => ?_, him.pl, him.p⟩, by rw [hks']; exact g1, by rw [hks']; exact Nat.le_of_lt g2, fun _ => .inr (by rw [hks']; exact g2), fun h => by simp at h, kn, rfl, rfl, rfl, rfl⟩
           rcases List.mem_or_eq_of_mem_set hs2 with h | rfl
           ·exact him.s s2 h
           ·exact ⟨hnd2, hlt2, .inr ⟨M, ver2, rfl, rfl⟩⟩
          ·intro hc3
           have heq : ks2.length = (Qr9 ss b).length := by rw [hkb]; simp at hc3; omega
           refine Qf ?_
           try simp only [go_sem]
           exact hnr _ _ ⟨ss, a, him, hinv, Nat.le_refl _, fun h => .inl h, fun h => ⟨h, rfl, hinv.same hbF hnd2 hks3 heq⟩, kn.drop, rfl, rfl, rfl, rfl⟩
       ·rintro e2 H6 ⟨ss2, a2, him2, hinv2, t1, t2, t3, kn, l1, l3, l5, l6⟩
        refine Qq ?_
        simp only [go_sem, X.next, l1, l3, l5, l6]
        refine ⟨Qo (by omega) (by omega), b, by omega, b, (b : Int) - 1, ss2, a2, rfl, by omega, rfl, him2, hinv2, by omega, fun ha => ?_, fun ha c hbc hci => ?_, kn, rfl⟩
        ·rcases t2 ha with h | h
         ·have := htt h; omega
         ·omega
        ·obtain ⟨u1, u2, u3⟩ := t3 ha
         rw [u2]
         by_cases hcb : c = b
         ·subst hcb; exact u3
         ·exact htf u1 c (by omega) hci
      ·intro hc
       have hlt0 : ¬ 0 ≤ j := by simpa using hc
       have hk0 : m1 = 0 := by omega
       subst hk0
       refine Qt ?_
       try simp only [go_sem, X.next]
       refine ⟨if a = true then i * q.regs.toNat + 1 - tot i (Qr9 ss) else 0, ?_, ss, a, rfl, him, hinv, fun ha b hb => htf ha b (by omega) hb, kn, by first | exact ⟨rfl, rfl⟩ | exact rfl | trivial⟩
       split
       ·have := htt ‹_›; omega
       ·omega
    ·intro haf
     have hcl := hcl haf
     refine Qt ?_
     simp only [go_sem, X.next]
     refine Qa ?_
     simp only [go_sem]
     refine Qj ?_
     simp only [go_sem, Qz, Qac, Q6j, List.mem_singleton, forall_eq, RS.op]
     exact hK l yi yp ss pr H4 him (fun b hb r => hinv.done (fun b hb => hcl b (by omega)) hb r) kn
end Go.AE.Y

namespace Go.AE.Y
attribute [local go_sem] cond_true cond_false Bool.not_true Bool.not_false
open Go.Proofs.Tryz
variable {H H0 F : Heap} {K : V → Heap → Prop} {E L : List (Nat × Obj)}
variable {q : CodeD} {fl : Bool} {l yi yp : Nat} {ss : List SetO} {pr : List (List C)}
theorem Qa24 (ho : q.ok) (h : ∀ b, b < q.blocks.length → ∀ r, tabS ss b r ↔ (Q3 q).LI b r) {b : Nat} (hb : b < q.blocks.length) (r : Nat) : (Q3 q).outT (tabS ss) b r ↔ (Q3 q).LO b r :=
 Flo.outT_congr ho.fitsF h hb r
theorem Qaxw (ho : q.ok) (h : ∀ b, b < q.blocks.length → ∀ r, tabS ss b r ↔ (Q3 q).LI b r) {b : Nat} (hb : b < q.blocks.length) (k r : Nat) : (Q3 q).beh ((Q3 q).outT (tabS ss) b) b k r ↔ (Q3 q).LB b k r :=
 Flo.beh_congr (Qa24 ho h hb) b k r
theorem Qac3 {cs : List CodeD} {fl : Bool} {m b : Nat} {i : Int} (hfit : ∀ c ∈ cs, c.fits) (hg : Qfs cs = true) (hm : m < cs.length) (hb : b < cs[m].blocks.length) (hi : -1 ≤ i) (hi2 : i < cs[m].blocks[b].ins.length)
  (hK : ∀ (H' : Heap), Upd H H' [] → K (.c (.sl false 1 (Qbp (Qvv cs[m] b (i + 1).toNat)))) H') :
  Qp prog Qe4 [.ag [.sl fl 3 (Qm cs)], .c (.int .i64 m), .c (.int .i64 b), .c (.int .i64 i)] H K := by
 have hok := Q0e hg hm
 have hhas : hasG cs m = true := by simp only [hasG, hg, Bool.true_and, decide_eq_true_eq]; omega
 obtain ⟨q, hq⟩ : ∃ q, cs[m] = q := ⟨_, rfl⟩
 obtain ⟨y, hy⟩ : ∃ y, cs[m].blocks[b] = y := ⟨_, rfl⟩
 rw [hy] at hi2
 subst hq
 have hb1 := hok.b1
 have hr1 := hok.r1
 have hil := (hok.il b hb).1
 rw [hy] at hil
 refine Q0 ?_
 refine Qb Qat Q59 ?_
 refine Qa ?_
 simp only [go_sem]
 refine Q4 ?_
 refine Qa ?_
 simp only [go_sem]
 refine Qa5z hfit fun H1 hu => ?_
 have kn := (Kn.start0 H).call0 hu
 rw [hhas]
 simp only [go_sem, Qhr, hm, Qs, Q7 _ _ hm, CodeD.cells, Qn]
 intro _
 refine ⟨Qo (by omega) (by omega), ?_⟩
 refine Qcb ?_
 have h1 : (decide (0 ≤ (b : Int)) && decide ((b : Int) ≤ (cs[m].blocks.length : Int) - 1)) = true := by simp; omega
 rw [h1]
 simp only [go_sem, Qhq, hm, Qs, Q7 _ _ hm, CodeD.cells, hb, Qn, Q5 _ _ hb, BlkD.cells, hy, Qab]
 intro _
 refine ⟨Qo (by omega) (by omega), ?_⟩
 refine Qcb ?_
 have h2 : (decide (-1 ≤ i) && decide (i ≤ (y.ins.length : Int) - 1)) = true := by simp; omega
 rw [h2]
 simp only [go_sem, Qhp]
 refine Qh (Qd rfl (fun h => by simp at h) fun _ => ?_)
 refine Qf ?_
 try simp only [go_sem]
 refine Qa ?_
 simp only [go_sem, hm, Qs, Q7 _ _ hm, CodeD.cells]
 refine Qajc hok kn fun l yi yp ss pr H2 him hlv kn => ?_
 simp only [go_sem, Qhu]
 refine Q4v (F := H2) hok hb hi (by rw [hy]; exact hi2) him kn.mid fun M ver ks H3 hnd hlt hks k2 => ?_
 have kn := kn.comp k2 rfl
 have hkl := Qbz hnd hlt
 have hM : H3 M = .map ver (Qai ks) := (kn.get (M, .map ver (Qai ks)) (by simp)).1
 simp only [go_sem, Qht]
 refine Qama hM hnd (by simp only [LIM]; omega) fun lst H4 hu hasc hmem => ?_
 have kn := kn.call0 hu
 have e : lst = Qvv cs[m] b (i + 1).toNat := Qaxi hasc Qa5x fun x => by
  rw [hmem, hks, Qaxw hok hlv hb, Qvv, Qair]
  exact ⟨fun h => ⟨Flo.LB_lt hok.fitsF hok.bdF hb _ x h, h⟩, fun h => h.2⟩
 rw [e]
 simp only [go_sem, Qhs]
 refine Qj ?_
 simp only [go_sem, X.next, Qz, Qac, Qoq, List.mem_singleton, forall_eq, RS.op]
 exact ⟨_, .c _ _ (Q5w (Qhg (Qgd _))), hK _ kn.fin⟩
end Go.AE.Y

namespace Go.AE.Y
attribute [local go_sem] cond_true cond_false Bool.not_true Bool.not_false
open Go.Proofs.Tryz
variable {H H0 F : Heap} {K : V → Heap → Prop} {E L : List (Nat × Obj)}
end Go.AE.Y

namespace Go.AE.Y
attribute [local go_sem] cond_true cond_false Bool.not_true Bool.not_false
open Go.Proofs.Tryz
variable {H H0 : Heap} {K : V → Heap → Prop} {E B Lg : List (Nat × Obj)}
theorem Qari {S : Nat → Bool} {a b a' b' : V} (h : FrzV H S a a') (k : FrzV H S b b') : FrzV H S (.tup [a, b]) (.tup [a', b']) := by
 refine .tup _ _ rfl fun j x x' h1 h2 => ?_
 match j with
 | 0 => simp at h1 h2; subst h1; subst h2; exact h
 | 1 => simp at h1 h2; subst h1; subst h2; exact k
 | j + 2 => simp at h1
theorem Qamc {S : Nat → Bool} (cs : List CodeD) : FrzV H S (.ag [.sl false 3 (Qm cs)]) (.ag [.sl false 3 (Qm cs)]) := FrzL.ag (.cons (FrzR.same (Qbx cs)).sl .nil)
theorem UnitOk.fits {cs : List CodeD} (h : UnitOk cs) : ∀ c ∈ cs, c.fits := fun c hc => (h.2.2 c hc).f
end Go.AE.Y

namespace Go.AE.Y
attribute [local go_sem] cond_true cond_false Bool.not_true Bool.not_false
open Go.Proofs.Tryz
variable {H H0 : Heap} {K : V → Heap → Prop} {E B Lg : List (Nat × Obj)}
attribute [local instance] Classical.propDecidable
end Go.AE.Y

namespace Go.AE.Y
attribute [local go_sem] cond_true cond_false Bool.not_true Bool.not_false
open Go.Proofs.Tryz
variable {H H0 : Heap} {K : V → Heap → Prop} {E B Lg : List (Nat × Obj)}
attribute [local instance] Classical.propDecidable
end Go.AE.Y

namespace Go.AE
variable {H0 F H : Heap} {E E' L M : List (Nat × Obj)}
theorem Kn.midE (k : Kn H0 F E L) : Kn F F E [] := .startE (fun p hp => k.get p (List.mem_append_left _ hp)) k.dE
theorem Kn.compA (k1 : Kn H0 F E L) (k2 : Kn F H E' M) (hE : E'.map Prod.fst = E.map Prod.fst) : Kn H0 H E' (L ++ M) := by
 have inE : ∀ p ∈ E', ∃ q ∈ E, q.1 = p.1 := fun p hp => by
  have := Qbc hp; rw [hE] at this
  obtain ⟨q, h1, h2⟩ := List.mem_map.1 this; exact ⟨q, h1, h2⟩
 have hL : ∀ p ∈ L, F p.1 = p.2 ∧ p.2 ≠ .none := fun p hp => k1.get p (List.mem_append_right _ hp)
 have hLE : ∀ p ∈ L, p.1 ∉ E'.map Prod.fst := fun p hp h => by
  rw [hE] at h
  obtain ⟨q, hq, hh⟩ := List.mem_map.1 h
  exact k1.ext q hq (hh ▸ k1.loc p hp)
 refine ⟨fun p hp => ?_, fun p hp => ?_, fun p hp => ?_, by rw [hE]; exact k1.dE, ?_, fun m hm hn => ?_⟩
 ·rw [← List.append_assoc] at hp
  rcases List.mem_append.1 hp with hp | hp
  ·rcases List.mem_append.1 hp with hp | hp
   ·exact k2.get p (List.mem_append_left _ hp)
   ·obtain ⟨h1, h2⟩ := hL p hp
    exact ⟨by rw [k2.chg p.1 (by rw [h1]; exact h2) (hLE p hp), h1], h2⟩
  ·exact k2.get p (List.mem_append_right _ hp)
 ·obtain ⟨q, hq, hh⟩ := inE p hp
  rw [← hh]; exact k1.ext q hq
 ·rcases List.mem_append.1 hp with hp | hp
  ·exact k1.loc p hp
  ·exact (k1.newFree (k2.loc p hp)).1
 ·rw [List.map_append]
  refine List.nodup_append.2 ⟨k1.dL, k2.dL, fun a ha b hb hab => ?_⟩
  obtain ⟨p, hp, rfl⟩ := List.mem_map.1 ha
  obtain ⟨q, hq, rfl⟩ := List.mem_map.1 hb
  obtain ⟨h1, h2⟩ := hL p hp
  have := k2.loc q hq
  rw [← hab, h1] at this
  exact h2 this
 ·have h1 := k1.chg m hm (by rw [← hE]; exact hn)
  rw [k2.chg m (by rw [h1]; exact hm) hn, h1]
end Go.AE
namespace Go.AE.Y
attribute [local go_sem] cond_true cond_false Bool.not_true Bool.not_false
open Go.Proofs.Tryz
variable {H H0 F : Heap} {K : V → Heap → Prop} {E L : List (Nat × Obj)}
variable {q : CodeD} {fl : Bool} {l yi yp : Nat} {ss : List SetO} {pr : List (List C)}
attribute [local instance] Classical.propDecidable
def Qs1 (op : Int) : Bool := decide (1 ≤ op ∧ op ≤ 10) && !decide (op = 6) && !decide (op = 7)
theorem Qux {op : Int} (h : Qs1 op = true) : Qde op = true ∧ op ≤ 10 ∧ ¬ op = 6 ∧ ¬ op = 7 := by
 simp only [Qs1, Bool.and_eq_true, decide_eq_true_eq, Bool.not_eq_true', decide_eq_false_iff_not] at h
 obtain ⟨⟨h1, h2⟩, h3⟩ := h
 refine ⟨?_, h1.2, h2, h3⟩
 simp only [Qde, Bool.and_eq_true, decide_eq_true_eq, Bool.not_eq_true', decide_eq_false_iff_not]
 omega
theorem Qa61 {op : Int} (hK : K (.c (.bool (decide (1 ≤ op ∧ op ≤ 10)))) H) : Qp prog Q5u [.c (.int .i64 op)] H K := by
 refine Qb Qat Qa7l ?_
 refine Qa ?_
 simp only [go_sem]
 refine Qa ?_
 simp only [go_sem]
 refine Qdc ?_
 simp only [go_sem, Qaa2]
 refine Qj ?_
 simp only [go_sem, Qz, Qac, Qax8, List.mem_singleton, forall_eq, RS.op]
 exact hK
theorem Qay8 {op : Int} (hK : K (.c (.bool (Qs1 op))) H) : Qp prog Qup [.c (.int .i64 op)] H K := by
 refine Qb Qat Qazd ?_
 refine Qa ?_
 simp only [go_sem]
 refine Qa ?_
 simp only [go_sem]
 refine Qa61 ?_
 simp only [go_sem, Qxm]
 refine Qj ?_
 simp only [go_sem, Qz, Qac, Qah4, List.mem_singleton, forall_eq, RS.op]
 have : ∀ a b c : Bool, (bif bif a then b else false then c else false) = (a && b && c) := by decide
 rw [this]; exact hK
theorem Qay2 {op : Int} (hK : K (.c (.bool (Qs1 op))) H) : Qp prog Qh2 [.c (.int .i64 op)] H K := by
 refine Qb Qat Qajj ?_
 refine Qa ?_
 simp only [go_sem]
 have fin : ∀ (b : Bool) (e : Env), b = Qs1 op → lk 4 e = .c (.bool b) → Qah prog Qo8 (X.inBlock 0 (X.sq prog Qo9 (Qz Qfj K))) e H := by
  intro b e hb l4
  refine Qd l4 ?_ ?_
  ·intro hc
   refine Qa ?_
   simp only [go_sem]
   refine Qj ?_
   simp only [go_sem, X.next, Qz, Qac, Qfj, List.mem_singleton, forall_eq, RS.op]
   rw [← hb, hc] at hK; exact hK
  ·intro hc
   refine Qf ?_
   try simp only [go_sem]
   refine Qa ?_
   simp only [go_sem]
   refine Qj ?_
   simp only [go_sem, X.next, Qz, Qac, Qfj, List.mem_singleton, forall_eq, RS.op]
   rw [← hb, hc] at hK; exact hK
 refine Q4 ?_
 refine Qa ?_
 simp only [go_sem]
 refine Qh (Qc ?_)
 refine Q4 ?_
 refine Qa ?_
 simp only [go_sem]
 refine Qh (Qd rfl ?_ ?_)
 ·intro hc
  refine Qf ?_
  try simp only [go_sem]
  exact fin true _ (by have := of_decide_eq_true hc; rw [this]; rfl) (by simpa [lk] using hc)
 intro h1
 refine Qa ?_
 simp only [go_sem]
 refine Qd rfl ?_ ?_
 ·intro hc
  refine Qf ?_
  try simp only [go_sem]
  exact fin true _ (by have := of_decide_eq_true hc; rw [this]; rfl) (by simpa [lk] using hc)
 intro h2
 refine Qa ?_
 simp only [go_sem]
 refine Qd rfl ?_ ?_
 ·intro hc
  refine Qf ?_
  try simp only [go_sem]
  exact fin true _ (by have := of_decide_eq_true hc; rw [this]; rfl) (by simpa [lk] using hc)
 intro h10
 refine Qa ?_
 simp only [go_sem]
 refine Qd rfl ?_ ?_
 ·intro hc
  refine Qf ?_
  try simp only [go_sem]
  exact fin true _ (by have := of_decide_eq_true hc; rw [this]; rfl) (by simpa [lk] using hc)
 intro h3
 refine Qa ?_
 simp only [go_sem]
 refine Qd rfl ?_ ?_
 ·intro hc
  refine Qf ?_
  try simp only [go_sem]
  exact fin true _ (by have := of_decide_eq_true hc; rw [this]; rfl) (by simpa [lk] using hc)
 intro h4
 refine Qa ?_
 simp only [go_sem]
 refine Qd rfl ?_ ?_
 ·intro hc
  refine Qf ?_
  try simp only [go_sem]
  exact fin true _ (by have := of_decide_eq_true hc; rw [this]; rfl) (by simpa [lk] using hc)
 intro h5
 refine Qa ?_
 simp only [go_sem]
 refine Qd rfl ?_ ?_
 ·intro hc
  refine Qf ?_
  try simp only [go_sem]
  exact fin true _ (by have := of_decide_eq_true hc; rw [this]; rfl) (by simpa [lk] using hc)
 intro h8
 refine Qq ?_
 simp only [go_sem]
 refine fin (decide (op = 9)) _ ?_ rfl
 simp only [decide_eq_false_iff_not] at h1 h2 h10 h3 h4 h5 h8
 rw [Qs1]
 by_cases h9 : op = 9
 ·subst h9; rfl
 ·have e1 : decide (op = 9) = false := decide_eq_false h9
  rw [e1]
  by_cases hr : 1 ≤ op ∧ op ≤ 10
  ·have : op = 6 ∨ op = 7 := by omega
   rcases this with h | h <;> subst h <;> rfl
  ·rw [decide_eq_false hr]; rfl
noncomputable def Qai4 (q : CodeD) (b i : Nat) (x : InsD) : Bool := Qs1 x.op && !decide (x.to.toNat ∈ Qvv q b (i + 1))
noncomputable def Qv5 (q : CodeD) (b i : Nat) : Bool := match (q.blocks[b]?).bind (fun y => y.ins[i]?) with
 | some x => Qai4 q b i x
 | none => false
theorem Qai5 {b i : Nat} (hb : b < q.blocks.length) (hi : i < q.blocks[b].ins.length) : Qv5 q b i = Qai4 q b i q.blocks[b].ins[i] := by simp [Qv5, hb, hi]
set_option maxHeartbeats 1000000 in
theorem Qaxr {b i : Nat} (ho : q.ok) (hb : b < q.blocks.length) (hi : i < q.blocks[b].ins.length) (him : imOk q ss pr) (hlv : ∀ b, b < q.blocks.length → ∀ r, tabS ss b r ↔ (Q3 q).LI b r) (kn : Kn F H (imE q fl l yi yp ss pr) [])
  (hK : ∀ H', Kn F H' (imE q fl l yi yp ss pr) [] → K (.c (.bool (Qv5 q b i))) H') :
  Qp prog Qci [.c (.ptr l 0), .c (.int .i64 b), .c (.int .i64 i)] H K := by
 obtain ⟨y, hy⟩ : ∃ y, q.blocks[b] = y := ⟨_, rfl⟩
 have hyo : y.ok q b := by rw [← hy]; exact ho.bs b hb
 obtain ⟨x, hx⟩ : ∃ x, q.blocks[b].ins[i] = x := ⟨_, rfl⟩
 have hP : Qv5 q b i = Qai4 q b i x := by rw [Qai5 hb hi, hx]
 rw [hP] at hK
 have hi' : i < y.ins.length := by rw [← hy]; exact hi
 have hx' : y.ins[i] = x := by subst hy; exact hx
 have hxm : x ∈ y.ins := by rw [← hx']; exact List.getElem_mem hi'
 have hr1 := ho.r1
 refine Qb Qat Q2t ?_
 refine Qa ?_
 simp only [go_sem]
 obtain ⟨hl, _, _⟩ := Qyn kn
 refine Qa ?_
 simp only [go_sem, hl, hb, Qn, Q5 _ _ hb, BlkD.cells, hy, hi', Qab, Qa9 _ _ hi', InsD.take4, InsD.allOw, InsD.len4, hx', InsD.cells]
 intro x7 hx7 H1 h1
 have kn := kn.al hx7 h1
 have hx7 := kn.l 0 rfl
 simp only [go_sem, Qgs, hx7]
 intro H2 h2
 have kn : Kn F H2 (imE q fl l yi yp ss pr) ([] ++ [(x7, .st [.int .i64 x.op, .int .i64 x.to, .sl false 1 (Qe x.args), .int .i64 x.n])]) := kn.stL 0 rfl h2
 have hx7 := kn.l 0 rfl
 refine Qan ?_
 simp only [go_sem, hx7]
 refine Qay2 ?_
 cases hq : Qs1 x.op with
 | false =>
  have e1 : Qao H2 C.unk = [] := rfl
  have e2 : Qum (C.int .i64 x.to) [] = none := rfl
  simp only [go_sem, Qc8, Qc7, hx7, e1, e2, Option.getD_none]
  refine Qj ?_
  simp only [go_sem, Qz, Qac, Qe5, List.mem_singleton, forall_eq, RS.op]
  have hK := hK _ kn.drop
  rw [Qai4, hq] at hK; exact hK
 | true =>
  obtain ⟨hmk, _, _, _⟩ := Qux hq
  obtain ⟨hv, hvl⟩ := (hyo.to x hxm hmk).nat
  simp only [go_sem, Qc8, hx7]
  refine Q4v (F := H2) ho hb (by omega) (by omega) him kn.midE fun M ver ks H3 hnd hlt hks k2 => ?_
  have kn3 := kn.compA k2 rfl
  have hM : H3 M = .map ver (Qai ks) := k2.l 0 rfl
  have hx7 : H3 x7 = .st [.int .i64 x.op, .int .i64 x.to, .sl false 1 (Qe x.args), .int .i64 x.n] := kn3.l 0 rfl
  have hokM : Quw H3 (.mp M) = True := by simp only [Quw, hM]
  have henM : Qao H3 (.mp M) = Qai ks := by simp only [Qao, hM]
  have hmem : decide (x.to.toNat ∈ ks) = decide (x.to.toNat ∈ Qvv q b (i + 1)) := by
   have e1 : ((i : Int) + 1).toNat = i + 1 := by omega
   rw [decide_eq_decide, hks, e1, Qaxw ho hlv hb, Qvv, Qair]
   exact ⟨fun h => ⟨hvl, h⟩, fun h => h.2⟩
  have hK := hK _ (kn3.drop (A := []))
  rw [Qai4, hq, ← hmem] at hK
  generalize hr : x.to.toNat = r at *
  simp only [go_sem, Qc7, hx7, hokM, henM, hv, Qcf, Q5f]
  refine Qj ?_
  simp only [go_sem, Qz, Qac, Qe5, List.mem_singleton, forall_eq, RS.op]
  exact hK
end Go.AE.Y

namespace Go.AE.Y
attribute [local go_sem] cond_true cond_false Bool.not_true Bool.not_false
open Go.Proofs.Tryz
variable {H H0 F : Heap} {K : V → Heap → Prop} {E L : List (Nat × Obj)}
variable {q : CodeD} {fl : Bool}
attribute [local instance] Classical.propDecidable
def Qi2 (q : CodeD) (b : Nat) : Nat := ((q.blocks[b]?.map BlkD.ins).getD []).length
theorem Qgb {b : Nat} (h : b < q.blocks.length) : Qi2 q b = q.blocks[b].ins.length := by simp [Qi2, h]
noncomputable def Q4z (q : CodeD) (b n : Nat) : List Nat := (List.range n).filter (Qv5 q b)
theorem Qi1 (q : CodeD) (b n : Nat) : Q4z q b (n + 1) = Q4z q b n ++ if Qv5 q b n = true then [n] else [] := by
 simp only [Q4z, List.range_succ, List.filter_append]
 congr 1
 cases h : Qv5 q b n <;> simp [h]
theorem Q40 (q : CodeD) (b n : Nat) : (Q4z q b n).length ≤ n := by
 have := List.length_filter_le (Qv5 q b) (List.range n)
 simpa [Q4z] using this
def itB (k b : Nat) (l : List Nat) : List (List Nat) := l.map fun i => [k, b, i]
noncomputable def itC (q : CodeD) (k nb : Nat) : List (List Nat) := (List.range nb).flatMap fun b => itB k b (Q4z q b (Qi2 q b))
theorem Qai8 (q : CodeD) (k nb : Nat) : itC q k (nb + 1) = itC q k nb ++ itB k nb (Q4z q nb (Qi2 q nb)) := by simp [itC, List.range_succ]
noncomputable def itU (cs : List CodeD) (nk : Nat) : List (List Nat) := (List.range nk).flatMap fun k => match cs[k]? with
 | some q => itC q k q.blocks.length
 | none => []
theorem Q41 {cs : List CodeD} {k : Nat} (h : k < cs.length) : itU cs (k + 1) = itU cs k ++ itC cs[k] k cs[k].blocks.length := by simp [itU, List.range_succ, h]
noncomputable def Qcv (cs : List CodeD) : List (List Nat) := if Qfs cs = true then itU cs cs.length else []
noncomputable def idlN (q : CodeD) (nb : Nat) : Nat := ((List.range nb).map fun b => (Q4z q b (Qi2 q b)).length).sum
theorem Qai7 (q : CodeD) (k nb : Nat) : (itC q k nb).length = idlN q nb := by
 induction nb with
 | zero => simp [itC, idlN]
 | succ n ih => rw [Qai8, List.length_append, ih]; simp [idlN, List.range_succ, itB]
theorem Qarj {nb : Nat} (h : nb ≤ q.blocks.length) : idlN q nb ≤ Qfr Quj (q.blocks.take nb) := by
 induction nb with
 | zero => simp [idlN]
 | succ n ih =>
  have h1 := ih (by omega)
  have hn : n < q.blocks.length := by omega
  rw [Qbh hn]
  have h2 := Q40 q n (Qi2 q n)
  rw [Qgb hn] at h2
  have h3 : idlN q (n + 1) = idlN q n + (Q4z q n (Qi2 q n)).length := by simp [idlN, List.range_succ]
  rw [h3, Qgb hn, Quj]
  omega
theorem Qa6d (q : CodeD) : idlN q q.blocks.length ≤ Qe3 q := by
 have := Qarj (q := q) (Nat.le_refl _)
 rwa [List.take_length] at this
theorem Qa86 {cs : List CodeD} {k : Nat} (h : k ≤ cs.length) : (itU cs k).length ≤ Qfr Qe3 (cs.take k) := by
 induction k with
 | zero => simp [itU]
 | succ k ih =>
  have hk : k < cs.length := by omega
  rw [Q41 hk, List.length_append, Qbh hk, Qai7]
  have := Qa6d cs[k]
  have := ih (by omega)
  omega
def Qe9 (ls : List (List Nat)) : List (List C) := ls.map fun l => [.sl true 1 (Qbp l)]
theorem Qahv (ls : List (List Nat)) : (Qe9 ls).length = ls.length := by simp [Qe9]
theorem Q54 (ls : List (List Nat)) (l : List Nat) : Qe9 ls ++ [[.sl true 1 (Qbp l)]] = Qe9 (ls ++ [l]) := by simp [Qe9]
theorem Qahu {S : Nat → Bool} (ls : List (List Nat)) : FrzR H S (Qe9 ls) (Qi3 ls) := by
 induction ls with
 | nil => exact .nil
 | cons l ls ih => exact .cons (.cons (FrzR.same (Qgd _)).sl .nil) ih
theorem Qa7r {bs : List Bool} {S : RS'} (h : Mem bs S) (r : Nat) : bs.getD r false = decide (S r) := by
 rw [Bool.eq_iff_iff, h r, decide_eq_true_eq]
set_option maxHeartbeats 2000000 in
theorem Qa2t {zi zo : List (Nat × List Bool)} {b : Nat} (ho : q.ok) (hb : b < q.blocks.length) (hlv : Qbca q zi zo)
  (hK : ∀ H', Upd H H' [] → K (.c (.sl false 1 (Qbp (Q4z q b (Qi2 q b))))) H') :
  Qp prog Qyf [.ag [.int .i64 q.params, .int .i64 q.regs, .sl fl 5 (Ql q.blocks)], .ag [.sl false 1 (Qe2 zi), .sl false 1 (Qe2 zo)], .c (.int .i64 b)] H K := by
 obtain ⟨y, hy⟩ : ∃ y, q.blocks[b] = y := ⟨_, rfl⟩
 have hyo : y.ok q b := by rw [← hy]; exact ho.bs b hb
 have hil : y.ins.length ≤ 800 := by rw [← hy]; exact (ho.il b hb).1
 have hr1 := ho.r1
 have hlo := hlv.1.o
 have hbz : b < zo.length := by omega
 refine Q0 ?_
 refine Qb Qat Qa3b ?_
 refine Qa ?_
 simp only [go_sem]
 refine Qa ?_
 simp only [go_sem]
 refine Q4 ?_
 refine Qa ?_
 simp only [go_sem]
 refine Qh (Qc (Qu (fun m e1 H1 => ∃ (i : Nat) (t : C) (Lg : List (Nat × Obj)), m = y.ins.length - i ∧ i ≤ y.ins.length ∧ Gr Lg 1 (Qbp (Q4z q b i)) t ∧ Kn H H1 [] ([] ++ Lg) ∧
  e1 = [(2, .c (.int .i64 b)), (3, .c (.pp [.int .i64 q.params, .int .i64 q.regs, .sl fl 5 (Ql q.blocks)])), (4, .c (.pp [.sl false 1 (Qe2 zi), .sl false 1 (Qe2 zo)])), (7, .c t), (8, .c (.int .i64 i))]) y.ins.length ?_ ?_))
 ·exact ⟨0, _, [], by omega, by omega, .nil 1, Kn.start0 H, rfl⟩
 ·rintro m e1 H1 ⟨i, t, Lg, hm, hi, hgr, kn, rfl⟩
  have htw := hgr.isOw
  refine Q4 ?_
  refine Qa ?_
  simp only [go_sem, htw, hb, Qn, Q5 _ _ hb, BlkD.cells, hy, Qab]
  intro _
  refine Qh (Qd rfl ?_ ?_)
  ·intro hc
   have hlt : i < y.ins.length := by simpa using hc
   obtain ⟨x, hx⟩ : ∃ x, y.ins[i] = x := ⟨_, rfl⟩
   have hxm : x ∈ y.ins := by rw [← hx]; exact List.getElem_mem hlt
   have hP : Qv5 q b i = Qai4 q b i x := by rw [Qai5 hb (by rw [hy]; exact hlt)]; subst hy; rw [hx]
   have hidl := Q40 q b i
   refine Qf ?_
   try simp only [go_sem]
   refine Qdm (fun e2 H2 => ∃ (t : C) (Lg : List (Nat × Obj)), Gr Lg 1 (Qbp (Q4z q b (i + 1))) t ∧ Kn H H2 [] ([] ++ Lg) ∧ lk 2 e2 = .c (.int .i64 b) ∧ lk 3 e2 = .c (.pp [.int .i64 q.params, .int .i64 q.regs, .sl fl 5 (Ql q.blocks)]) ∧ lk 4 e2 = .c (.pp [.sl false 1 (Qe2 zi), .sl false 1 (Qe2 zo)]) ∧ lk 7 e2 = .c t ∧ lk 8 e2 = .c (.int .i64 i)) ?_ ?_
   ·intro Q hnr _ _
    refine Qc ?_
    refine Qa ?_
    simp only [go_sem, htw, hb, Qn, Q5 _ _ hb, BlkD.cells, hy, hlt, Qab, Qa9 _ _ hlt, InsD.take4, InsD.allOw, InsD.len4, hx, InsD.cells]
    intro x9 hx9 H2 h2
    have kn := kn.al hx9 h2
    have hx9 : H2 x9 = .st [.int .i64 0, .int .i64 0, .sl true 1 [], .int .i64 0] := (kn.get (x9, .st [.int .i64 0, .int .i64 0, .sl true 1 [], .int .i64 0]) (by simp)).1
    simp only [go_sem, Q09, hx9, htw]
    intro H3 h3
    have kn : Kn H H3 [] (Lg ++ [(x9, .st [.int .i64 x.op, .int .i64 x.to, .sl false 1 (Qe x.args), .int .i64 x.n])]) := by
     have := kn.stL ([] ++ Lg).length (x := x9) (o := .st [.int .i64 0, .int .i64 0, .sl true 1 [], .int .i64 0]) (by simp) h3
     simpa using this
    have hx9 : H3 x9 = .st [.int .i64 x.op, .int .i64 x.to, .sl false 1 (Qe x.args), .int .i64 x.n] := (kn.get (x9, .st [.int .i64 x.op, .int .i64 x.to, .sl false 1 (Qe x.args), .int .i64 x.n]) (by simp)).1
    refine Qdm (fun e2 H2 => Kn H H2 [] ([] ++ Lg) ∧ lk 2 e2 = .c (.int .i64 b) ∧ lk 3 e2 = .c (.pp [.int .i64 q.params, .int .i64 q.regs, .sl fl 5 (Ql q.blocks)]) ∧ lk 4 e2 = .c (.pp [.sl false 1 (Qe2 zi), .sl false 1 (Qe2 zo)]) ∧ lk 7 e2 = .c t ∧ lk 8 e2 = .c (.int .i64 i) ∧ lk 45 e2 = .c (.bool (Qv5 q b i))) ?_ ?_
    ·intro Q hnr _ _
     refine Qbw ?_
     simp only [go_sem, hx9, htw]
     refine Qay8 ?_
     cases hq : Qs1 x.op with
     | false =>
      simp only [go_sem, Qpu, Qpt, hx9, htw]
      exact hnr _ _ ⟨kn.drop, rfl, rfl, rfl, rfl, rfl, by rw [hP, Qai4, hq]; rfl⟩
     | true =>
      obtain ⟨hmk, _, _, _⟩ := Qux hq
      obtain ⟨hv, hvl⟩ := (hyo.to x hxm hmk).nat
      simp only [go_sem, Qpu, hx9, htw]
      refine Q50 (orows := Qe2 zo) (cb := .sl false 1 (Qv zo[b].2)) (bs := zo[b].2) (W := (Q3 q).LO b) ho hb (by omega) (by rw [hy]; omega) kn (.mk' _ _ _ _) rfl rfl (by rw [Qa31]; exact hbz) (Qazr _ _ hbz) (.mk' _ _ _ _) rfl (hlv.1.lo _ (List.getElem_mem hbz))
       ((Qar5 hbz).congr fun r => (hlv.2 b hb r).2) fun y9 bs' H9 hbl hmem kn => ?_
      have hy9 : H9 y9 = .vec 1 (Qv bs') := (kn.get (y9, .vec 1 (Qv bs')) (by simp)).1
      have hx9 : H9 x9 = .st [.int .i64 x.op, .int .i64 x.to, .sl false 1 (Qe x.args), .int .i64 x.n] := (kn.get (x9, .st [.int .i64 x.op, .int .i64 x.to, .sl false 1 (Qe x.args), .int .i64 x.n]) (by simp)).1
      have e1 : ((i : Int) + 1).toNat = i + 1 := by omega
      rw [e1] at hmem
      have hgd : bs'.getD x.to.toNat false = decide (x.to.toNat ∈ Qvv q b (i + 1)) := by
       rw [Qa7r hmem, decide_eq_decide, Qvv, Qair]
       exact ⟨fun h => ⟨hvl, h⟩, fun h => h.2⟩
      have hPv : Qv5 q b i = !bs'.getD x.to.toNat false := by rw [hP, Qai4, hq, hgd]; rfl
      have hvl' : x.to.toNat < bs'.length := by omega
      have htk : (Qv bs').take q.regs.toNat = Qv bs' := List.take_of_length_le (by rw [Qaa]; omega)
      generalize hr : x.to.toNat = r at *
      simp only [go_sem, Qpt, hx9, htw, hv, hy9, htk, hvl, Qaa, hbl, Qav _ _ hvl', Nat.zero_add, Nat.le_refl]
      exact hnr _ _ ⟨kn.drop.drop, rfl, rfl, rfl, rfl, rfl, by rw [hPv]; rfl⟩
    ·rintro e2 H4 ⟨kn, l2, l3, l4, l7, l8, l45⟩
     refine Qd l45 ?_ ?_
     ·intro hc2
      refine Qq ?_
      simp only [go_sem, l2, l3, l4, l7, l8, htw]
      refine kn.growR (B := []) (new := Qbp [i]) hgr (.mk' _ _ _ _) (Qgd _) (by simp only [Qsa, LIM, List.length_cons, List.length_nil]; omega) fun t2 Lg2 H5 hgr2 ht2 kn => ?_
      simp only [go_sem, Q1a, l2, l3, l4, l7, l8, ht2]
      refine hnr _ _ ⟨t2, Lg2, ?_, kn, rfl, rfl, rfl, rfl, rfl⟩
      rw [Qi1, hc2, if_pos rfl, Qah0]; exact hgr2
     ·intro hc2
      refine Qf ?_
      try simp only [go_sem]
      refine hnr _ _ ⟨t, Lg, ?_, kn, l2, l3, l4, l7, l8⟩
      rw [Qi1, hc2]; simpa using hgr
   ·rintro e2 H2 ⟨t2, Lg2, hgr2, kn, l2, l3, l4, l7, l8⟩
    have ht2 := hgr2.isOw
    refine Qq ?_
    simp only [go_sem, X.next, l2, l3, l4, l7, l8, ht2]
    exact ⟨Qo (by omega) (by omega), y.ins.length - (i + 1), by omega, i + 1, t2, Lg2, rfl, by omega, hgr2, kn, by trivial⟩
  ·intro hc
   have hge : i = y.ins.length := by have : y.ins.length ≤ i := (by simpa using hc); omega
   refine Qt ?_
   simp only [go_sem, X.next]
   refine Qa ?_
   simp only [go_sem, htw]
   refine Qj ?_
   simp only [go_sem, Qz, Qac, Qank, List.mem_singleton, forall_eq, RS.op, htw]
   have e : Qi2 q b = i := by rw [Qgb hb, hy, hge]
   rw [e] at hK
   exact ⟨_, .c _ _ (hgr.frz kn (Qgd _)), hK _ kn.fin⟩
set_option maxHeartbeats 2000000 in
theorem Qaxb {cs : List CodeD} (hfit : ∀ c ∈ cs, c.fits) (hcl : cs.length ≤ 4) (hK : ∀ (H' : Heap), Upd H H' [] → K (.c (.sl false 1 (Qi3 (Qcv cs)))) H') :
  Qp prog Qkr [.ag [.sl fl 3 (Qm cs)]] H K := by
 refine Q0 ?_
 refine Qb Qat Qand ?_
 refine Qa ?_
 simp only [go_sem]
 refine Qa ?_
 simp only [go_sem]
 refine Q4 ?_
 refine Qa ?_
 simp only [go_sem]
 refine Qh (Qc (Qu (fun m e1 H1 => ∃ (k : Nat) (t : C) (Lg : List (Nat × Obj)), m = cs.length - k ∧ k ≤ cs.length ∧ (Qfs cs = true ∨ k = 0) ∧ Gr Lg 1 (Qe9 (itU cs k)) t ∧ Kn H H1 [] ([] ++ Lg) ∧
  lk 1 e1 = .c (.pp [.sl fl 3 (Qm cs)]) ∧ lk 3 e1 = .c t ∧ lk 4 e1 = .c (.int .i64 k)) cs.length ?_ ?_))
 ·exact ⟨0, _, [], by omega, by omega, .inr rfl, .nil 1, Kn.start0 H, rfl, rfl, rfl⟩
 ·rintro m e1 H1 ⟨k, t, Lg, hm, hk, hkg, hgr, kn, l1, l3, l4⟩
  have htw := hgr.isOw
  refine Q4 ?_
  refine Qa ?_
  simp only [go_sem, l1, l3, l4, htw, Qs]
  intro _
  have done : ∀ (e : Env) (H2 : Heap), Qcv cs = itU cs k → Kn H H2 [] ([] ++ Lg) → lk 3 e = .c t → Qah prog Qru (Qz Qow (fun x H' => ∃ x', FrzV H' (un H) x x' ∧ K x' (H'.frz (un H)))) e H2 := by
   intro e H2 he kn l3
   refine Qa ?_
   simp only [go_sem, l3, htw]
   refine Qj ?_
   simp only [go_sem, Qz, Qac, Qow, List.mem_singleton, forall_eq, RS.op, htw]
   have hK := hK _ kn.fin
   rw [he] at hK
   exact ⟨_, .c _ _ (hgr.frzR kn (Qahu _)), hK⟩
  by_cases hlt : k < cs.length
  ·have hlt' : decide ((k : Int) < (cs.length : Int)) = true := by simpa using hlt
   simp only [go_sem, hlt', l1, l3, l4, htw]
   refine Q0g hfit fun H2 hu => ?_
   have kn := kn.call0 hu
   cases hg : Qfs cs with
   | false =>
    have hk0 : k = 0 := hkg.resolve_left (by rw [hg]; simp)
    simp only [go_sem, Qd0, l1, l3, l4, htw]
    refine Qh (Qd rfl (fun h => by simp at h) fun _ => ?_)
    refine Qt ?_
    simp only [go_sem, X.next]
    exact done _ _ (by rw [Qcv, hg, hk0]; simp [itU]) kn rfl
   | true =>
    have hqok := Q0e hg hlt
    obtain ⟨q, hq⟩ : ∃ q, cs[k] = q := ⟨_, rfl⟩
    rw [hq] at hqok
    have hb1 := hqok.b1
    have hr1 := hqok.r1
    simp only [go_sem, Qd0, l1, l3, l4, htw]
    refine Qh (Qd rfl (fun _ => ?_) (fun h => by simp at h))
    refine Qf ?_
    try simp only [go_sem]
    refine Qdm (fun e2 H3 => ∃ (t : C) (Lg : List (Nat × Obj)), Gr Lg 1 (Qe9 (itU cs (k + 1))) t ∧ Kn H H3 [] ([] ++ Lg) ∧ lk 1 e2 = .c (.pp [.sl fl 3 (Qm cs)]) ∧ lk 3 e2 = .c t ∧ lk 4 e2 = .c (.int .i64 k)) ?_ ?_
    ·intro Q hnr _ _
     refine Qc ?_
     refine Qa ?_
     simp only [go_sem, hlt, Qs, Q7 _ _ hlt, CodeD.cells, hq, htw]
     refine Qa2u hqok fun zi zo H3 hu hlv => ?_
     have kn := kn.call0 hu
     simp only [go_sem, Qrw, htw]
     intro x5 hx5 H4 h4
     have kn := kn.al hx5 h4
     have hx5 : H4 x5 = .st [.sl true 1 [], .sl true 1 []] := (kn.get (x5, .st [.sl true 1 [], .sl true 1 []]) (by simp)).1
     simp only [go_sem, Qrv, hx5, htw]
     intro H5 h5
     have kn : Kn H H5 [] ([(x5, .st [.sl false 1 (Qe2 zi), .sl false 1 (Qe2 zo)])] ++ Lg) := by
      have := kn.stL ([] ++ Lg).length (x := x5) (o := .st [.sl true 1 [], .sl true 1 []]) (by simp) h5
      refine Kn.perm (by simpa using this) ?_
      exact List.perm_append_comm
     refine Qa ?_
     simp only [go_sem, htw]
     refine Qc (Qu (fun m2 e1 H1 => ∃ (b : Nat) (t : C) (Lg : List (Nat × Obj)), m2 = q.blocks.length - b ∧ b ≤ q.blocks.length ∧ Gr Lg 1 (Qe9 (itU cs k ++ itC q k b)) t ∧ Kn H H1 [] ([(x5, .st [.sl false 1 (Qe2 zi), .sl false 1 (Qe2 zo)])] ++ Lg) ∧
      lk 1 e1 = .c (.pp [.sl fl 3 (Qm cs)]) ∧ lk 3 e1 = .c t ∧ lk 4 e1 = .c (.int .i64 k) ∧ lk 5 e1 = .c (.ptr x5 0) ∧ lk 6 e1 = .c (.int .i64 b)) q.blocks.length ?_ ?_)
     ·exact ⟨0, t, Lg, by omega, by omega, by simpa [itC] using hgr, kn, rfl, rfl, rfl, rfl, rfl⟩
     ·clear hgr kn htw done l1 l3 l4 hx5
      rintro m2 e2 H6 ⟨b, t, Lg, hm2, hb, hgr, kn, l1, l3, l4, l5, l6⟩
      have htw := hgr.isOw
      refine Q4 ?_
      refine Qa ?_
      simp only [go_sem, l1, l3, l4, l5, l6, htw, hlt, Qs, Q7 _ _ hlt, CodeD.cells, hq, Qn]
      intro _
      refine Qh (Qd rfl ?_ ?_)
      ·intro hc2
       have hbl : b < q.blocks.length := by simpa using hc2
       have hx5 := kn.l 0 rfl
       refine Qf ?_
       try simp only [go_sem]
       refine Qh (Qc ?_)
       refine Qan ?_
       simp only [go_sem, htw, hlt, Qs, Q7 _ _ hlt, CodeD.cells, hq, hx5]
       refine Qa2t hqok hbl hlv fun H7 hu => ?_
       have kn := kn.call0 hu
       obtain ⟨li, hli⟩ : ∃ li, Q4z q b (Qi2 q b) = li := ⟨_, rfl⟩
       have hil := Q40 q b (Qi2 q b)
       rw [hli, Qgb hbl] at hil
       have hil2 := (hqok.il b hbl).1
       rw [hli]
       simp only [go_sem, Qrx, htw]
       refine Qa ?_
       simp only [go_sem, htw]
       have hsmall : (itU cs k ++ itC q k b).length ≤ 1000 := by
        have h1 := Qa86 (cs := cs) (k := k) (by omega)
        have h2 := Qarj (q := q) (nb := b) (by omega)
        have h3 := Qr2 (f := Quj) (l := q.blocks) b
        have h4 := Qr2 (f := Qe3) (l := cs) (k + 1)
        rw [Qbh hlt, hq] at h4
        have h5 := (of_decide_eq_true hg).2.2
        rw [List.length_append, Qai7]
        try simp only [Qe3] at h4 h1 h5 h3
        try simp only [Qe3]
        omega
       refine Qc (Qu (fun m3 e1 H1 => ∃ (j : Nat) (t : C) (Lg : List (Nat × Obj)), m3 = li.length - j ∧ j ≤ li.length ∧ Gr Lg 1 (Qe9 (itU cs k ++ itC q k b ++ itB k b (li.take j))) t ∧ Kn H H1 [] ([(x5, .st [.sl false 1 (Qe2 zi), .sl false 1 (Qe2 zo)])] ++ Lg) ∧
        e1 = [(1, .c (.pp [.sl fl 3 (Qm cs)])), (3, .c t), (4, .c (.int .i64 k)), (5, .c (.ptr x5 0)), (6, .c (.int .i64 b)), (7, .c (.sl false 1 (Qbp li))), (8, .c (.int .i64 j))]) li.length ?_ ?_)
       ·exact ⟨0, t, Lg, by omega, by omega, by simpa [itB] using hgr, kn, rfl⟩
       ·clear hgr kn htw l1 l3 l4 l5 l6
        rintro m3 e3 H8 ⟨j, t, Lg, hm3, hj, hgr, kn, rfl⟩
        have htw := hgr.isOw
        refine Q4 ?_
        refine Qa ?_
        simp only [go_sem, htw, Qsa]
        intro _
        refine Qh (Qd rfl ?_ ?_)
        ·intro hc3
         have hjl : j < li.length := by simpa using hc3
         obtain ⟨i, hi⟩ : ∃ i, li.getD j 0 = i := ⟨_, rfl⟩
         have hli1 : li.take (j + 1) = li.take j ++ [i] := by
          rw [List.take_succ_eq_append_getElem hjl, ← hi]; simp [List.getD_eq_getElem?_getD, hjl]
         refine Qf ?_
         try simp only [go_sem]
         refine Qh (Qc ?_)
         refine Qq ?_
         simp only [go_sem, htw, hjl, Qsa, Qar6 _ _ hjl, hi]
         refine kn.growR (B := [_]) (new := [[.sl true 1 (Qbp [k, b, i])]]) hgr (.mk' _ _ _ _) (by intro r hr; simp at hr; subst hr; rfl) (by
          simp only [Qahv, LIM, List.length_append, List.length_cons, List.length_nil, itB, List.length_map, List.length_take] at hsmall ⊢; omega) fun t2 Lg2 H9 hgr2 ht2 kn => ?_
         simp only [go_sem, Qry, ht2]
         refine Qq ?_
         simp only [go_sem, X.next, ht2]
         refine ⟨Qo (by omega) (by omega), li.length - (j + 1), by omega, j + 1, t2, Lg2, rfl, by omega, ?_, kn, rfl⟩
         rw [hli1]
         have e : itU cs k ++ itC q k b ++ itB k b (li.take j ++ [i]) = (itU cs k ++ itC q k b ++ itB k b (li.take j)) ++ [[k, b, i]] := by simp [itB]
         rw [e, ← Q54]; exact hgr2
        ·intro hc3
         have hge : li.length ≤ j := by simpa using hc3
         rw [List.take_of_length_le hge] at hgr
         refine Qt ?_
         simp only [go_sem, X.next]
         refine Qq ?_
         simp only [go_sem, X.next, htw]
         refine ⟨Qo (by omega) (by omega), q.blocks.length - (b + 1), by omega, b + 1, t, Lg, rfl, by omega, ?_, kn, ?_⟩
         ·rw [Qai8, hli, ← List.append_assoc]; exact hgr
         ·first | exact ⟨rfl, rfl, rfl, rfl, rfl⟩ | trivial | exact rfl
      ·intro hc2
       have hbe : b = q.blocks.length := by have : q.blocks.length ≤ b := (by simpa using hc2); omega
       subst hbe
       refine Qt ?_
       simp only [go_sem, X.next]
       refine hnr _ _ ⟨t, Lg, ?_, Kn.drop (B := [(x5, .st [.sl false 1 (Qe2 zi), .sl false 1 (Qe2 zo)])]) (kn.perm List.perm_append_comm), rfl, rfl, rfl⟩
       rw [Q41 hlt, hq]; exact hgr
    ·rintro e2 H3 ⟨t2, Lg2, hgr2, kn, l1, l3, l4⟩
     have ht2 := hgr2.isOw
     refine Qq ?_
     simp only [go_sem, l1, l3, l4, ht2]
     refine ⟨Qo (by omega) (by omega), ?_⟩
     show ∃ m, _
     exact ⟨cs.length - (k + 1), by omega, k + 1, t2, Lg2, rfl, by omega, by first | exact .inl hg | exact .inl trivial, hgr2, kn, rfl, rfl, rfl⟩
  ·have hlt' : decide ((k : Int) < (cs.length : Int)) = false := by simpa using hlt
   have hke : k = cs.length := by omega
   simp only [go_sem, Qd0, hlt', l1, l3, l4, htw]
   refine Qh (Qd rfl (fun h => by simp at h) fun _ => ?_)
   refine Qt ?_
   simp only [go_sem, X.next]
   refine done _ _ ?_ kn rfl
   rcases hkg with hg | h0
   ·rw [Qcv, if_pos hg, hke]
   ·rw [h0] at hke
    have : cs = [] := List.length_eq_zero_iff.1 hke.symm
    subst this
    rw [Qcv, h0]; split <;> simp [itU]
end Go.AE.Y

namespace Go.AE.Y
attribute [local go_sem] cond_true cond_false Bool.not_true Bool.not_false
open Go.Proofs.Tryz
variable {H H0 F : Heap} {K : V → Heap → Prop} {E L : List (Nat × Obj)}
variable {q : CodeD} {fl : Bool}
attribute [local instance] Classical.propDecidable
theorem Qay6 {cs : List CodeD} {k b : Nat} {q : CodeD} (hg : Qfs cs = true) (hlt : k < cs.length) (hq : cs[k] = q) (hb : b ≤ q.blocks.length) : (itU cs k ++ itC q k b).length ≤ 1000 := by
 have h1 := Qa86 (cs := cs) (k := k) (by omega)
 have h2 := Qarj (q := q) (nb := b) hb
 have h3 := Qr2 (f := Quj) (l := q.blocks) b
 have h4 := Qr2 (f := Qe3) (l := cs) (k + 1)
 rw [Qbh hlt, hq] at h4
 have h5 := (of_decide_eq_true hg).2.2
 rw [List.length_append, Qai7]
 try simp only [Qe3] at h4 h1 h5 h3
 try simp only [Qe3]
 omega
set_option maxHeartbeats 2000000 in
theorem Qark {cs : List CodeD} (hfit : ∀ c ∈ cs, c.fits) (hK : ∀ (H' : Heap), Upd H H' [] → K (.c (.sl false 1 (Qi3 (Qcv cs)))) H') :
  Qp prog Qkf [.ag [.sl fl 3 (Qm cs)]] H K := by
 refine Q0 ?_
 refine Qb Qat Qamy ?_
 refine Qa ?_
 simp only [go_sem]
 refine Q4 ?_
 refine Qa ?_
 simp only [go_sem]
 refine Qdr hfit fun H1 hu => ?_
 have kn := (Kn.start0 H).call0 hu
 simp only [go_sem, Qoy]
 refine Qh (Qd rfl ?_ ?_)
 ·intro hc
  have hc := Quv hc
  refine Qa ?_
  simp only [go_sem]
  refine Qj ?_
  simp only [go_sem, X.next, Qz, Qac, Qop, List.mem_singleton, forall_eq, RS.op]
  have hK := hK _ kn.fin
  rw [Qcv, hc] at hK
  exact ⟨_, .c _ _ FrzR.nil.sl, hK⟩
 intro hc
 have hg := Qg8 hc
 have hc4 : cs.length ≤ 4 := by have := (of_decide_eq_true hg).1; omega
 have hall : Qcv cs = itU cs cs.length := by rw [Qcv, if_pos hg]
 rw [hall] at hK
 refine Qf ?_
 try simp only [go_sem]
 refine Qa ?_
 simp only [go_sem]
 refine Q4 ?_
 refine Qa ?_
 simp only [go_sem, Qs]
 intro _
 refine Qh (Qc (Qu (fun m e1 H1 => ∃ (k : Nat) (t : C) (Lg : List (Nat × Obj)), m = cs.length - k ∧ k ≤ cs.length ∧ Gr Lg 1 (Qe9 (itU cs k)) t ∧ Kn H H1 [] ([] ++ Lg) ∧
  lk 3 e1 = .c t ∧ lk 14 e1 = .c (.sl fl 3 (Qm cs)) ∧ lk 15 e1 = .c (.int .i64 cs.length) ∧ lk 16 e1 = .c (.int .i64 k)) cs.length ?_ ?_))
 ·exact ⟨0, _, [], by omega, by omega, .nil 1, kn, rfl, rfl, rfl, rfl⟩
 ·clear kn
  rintro m e1 H2 ⟨k, t, Lg, hm, hk, hgr, kn, l3, l14, l15, l16⟩
  have htw := hgr.isOw
  refine Qa ?_
  simp only [go_sem, l3, l14, l15, l16, htw]
  refine Qh (Qd rfl ?_ ?_)
  ·intro hc1
   have hlt : k < cs.length := by simpa using hc1
   have hqok := Q0e hg hlt
   obtain ⟨q, hq⟩ : ∃ q, cs[k] = q := ⟨_, rfl⟩
   rw [hq] at hqok
   have hb1 := hqok.b1
   refine Qf ?_
   try simp only [go_sem]
   refine Qdm (fun e2 H3 => ∃ (t : C) (Lg : List (Nat × Obj)), Gr Lg 1 (Qe9 (itU cs (k + 1))) t ∧ Kn H H3 [] ([] ++ Lg) ∧ lk 3 e2 = .c t ∧ lk 14 e2 = .c (.sl fl 3 (Qm cs)) ∧ lk 15 e2 = .c (.int .i64 cs.length) ∧ lk 16 e2 = .c (.int .i64 k)) ?_ ?_
   ·intro Q hnr _ _
    refine Qc ?_
    refine Qa ?_
    simp only [go_sem, hlt, Qs, Q7 _ _ hlt, CodeD.cells, hq, htw]
    intro x5 hx5 H3 h3
    have kn := kn.al hx5 h3
    have hx5 : H3 x5 = .st [.int .i64 0, .int .i64 0, .sl true 5 []] := (kn.get (x5, .st [.int .i64 0, .int .i64 0, .sl true 5 []]) (by simp)).1
    simp only [go_sem, Qoz, hx5, htw]
    intro H4 h4
    have kn : Kn H H4 [] ([(x5, .st [.int .i64 q.params, .int .i64 q.regs, .sl false 5 (Ql q.blocks)])] ++ Lg) := by
     have := kn.stL ([] ++ Lg).length (x := x5) (o := .st [.int .i64 0, .int .i64 0, .sl true 5 []]) (by simp) h4
     refine Kn.perm (by simpa using this) ?_
     exact List.perm_append_comm
    have hx5 := kn.l 0 rfl
    refine Qa ?_
    simp only [go_sem, hx5, htw]
    refine Qajc hqok kn fun l yi yp ss pr H5 him hlv kn => ?_
    have hx5 : H5 x5 = .st [.int .i64 q.params, .int .i64 q.regs, .sl false 5 (Ql q.blocks)] := (kn.get (x5, .st [.int .i64 q.params, .int .i64 q.regs, .sl false 5 (Ql q.blocks)]) (by simp)).1
    simp only [go_sem, Qo0, htw]
    refine Qa ?_
    simp only [go_sem, hx5, htw, Qn]
    intro _
    have kn : Kn H H5 [] (imE q false l yi yp ss pr ++ Lg) := Kn.drop (B := [(x5, .st [.int .i64 q.params, .int .i64 q.regs, .sl false 5 (Ql q.blocks)])]) (kn.perm (Qr fun f hf h0 hc hp => by simp only [hf]; omega))
    refine Qc (Qu (fun m2 e1 H1 => ∃ (b : Nat) (t : C) (Lg : List (Nat × Obj)), m2 = q.blocks.length - b ∧ b ≤ q.blocks.length ∧ Gr Lg 1 (Qe9 (itU cs k ++ itC q k b)) t ∧ Kn H H1 [] (imE q false l yi yp ss pr ++ Lg) ∧
     lk 3 e1 = .c t ∧ lk 4 e1 = .c (.int .i64 k) ∧ lk 6 e1 = .c (.ptr l 0) ∧ lk 14 e1 = .c (.sl fl 3 (Qm cs)) ∧ lk 15 e1 = .c (.int .i64 cs.length) ∧ lk 16 e1 = .c (.int .i64 k) ∧
     lk 24 e1 = .c (.sl false 5 (Ql q.blocks)) ∧ lk 25 e1 = .c (.int .i64 q.blocks.length) ∧ lk 26 e1 = .c (.int .i64 b)) q.blocks.length ?_ ?_)
    ·exact ⟨0, t, Lg, by omega, by omega, by simpa [itC] using hgr, kn, rfl, rfl, rfl, rfl, rfl, rfl, rfl, rfl, rfl⟩
    ·clear hgr kn htw l3 l14 l15 l16 hx5
     rintro m2 e2 H6 ⟨b, t, Lg, hm2, hb, hgr, kn, l3, l4, l6, l14, l15, l16, l24, l25, l26⟩
     have htw := hgr.isOw
     refine Qa ?_
     simp only [go_sem, l3, l4, l6, l14, l15, l16, l24, l25, l26, htw]
     refine Qh (Qd rfl ?_ ?_)
     ·intro hc2
      have hbl : b < q.blocks.length := by simpa using hc2
      obtain ⟨y, hy⟩ : ∃ y, q.blocks[b] = y := ⟨_, rfl⟩
      have hil := (hqok.il b hbl).1
      have hle := Qgb hbl
      rw [hy] at hil hle
      have hsm := Qay6 hg hlt hq (b := b) (by omega)
      refine Qf ?_
      try simp only [go_sem]
      refine Qdm (fun e2 H3 => ∃ (t : C) (Lg : List (Nat × Obj)), Gr Lg 1 (Qe9 (itU cs k ++ itC q k (b + 1))) t ∧ Kn H H3 [] (imE q false l yi yp ss pr ++ Lg) ∧
       lk 3 e2 = .c t ∧ lk 4 e2 = .c (.int .i64 k) ∧ lk 6 e2 = .c (.ptr l 0) ∧ lk 14 e2 = .c (.sl fl 3 (Qm cs)) ∧ lk 15 e2 = .c (.int .i64 cs.length) ∧ lk 16 e2 = .c (.int .i64 k) ∧
       lk 24 e2 = .c (.sl false 5 (Ql q.blocks)) ∧ lk 25 e2 = .c (.int .i64 q.blocks.length) ∧ lk 26 e2 = .c (.int .i64 b)) ?_ ?_
      ·intro Q hnr _ _
       refine Qc ?_
       refine Qa ?_
       simp only [go_sem, hbl, Qn, Q5 _ _ hbl, BlkD.cells, hy, htw]
       intro x8 hx8 H7 h7
       have kn := kn.al hx8 h7
       have hx8 : H7 x8 = .st [.sl true 2 [], .sl true 4 [], .int .i64 0, .int .i64 0, .sl true 1 []] := (kn.get (x8, .st [.sl true 2 [], .sl true 4 [], .int .i64 0, .int .i64 0, .sl true 1 []]) (by simp)).1
       simp only [go_sem, Qo1, hx8, htw]
       intro H8 h8
       have kn : Kn H H8 [] ((imE q false l yi yp ss pr ++ Lg) ++ [(x8, Q2p y)]) := by
        have := kn.stL (imE q false l yi yp ss pr ++ Lg).length (x := x8) (o := .st [.sl true 2 [], .sl true 4 [], .int .i64 0, .int .i64 0, .sl true 1 []]) (by simp) h8
        simpa [Q2p] using this
       have hx8 : H8 x8 = .st [.sl false 2 (Q1 y.phis), .sl false 4 (Qaj y.ins), .int .i64 y.jump, .int .i64 y.on, .sl false 1 (Qe y.next)] := (kn.get (x8, Q2p y) (by simp)).1
       have kn := kn.drop
       refine Qa ?_
       simp only [go_sem, hx8, Qab, htw]
       intro _
       refine Qc (Qu (fun m3 e1 H1 => ∃ (i : Nat) (t : C) (Lg : List (Nat × Obj)), m3 = y.ins.length - i ∧ i ≤ y.ins.length ∧ Gr Lg 1 (Qe9 (itU cs k ++ itC q k b ++ itB k b (Q4z q b i))) t ∧ Kn H H1 [] (imE q false l yi yp ss pr ++ Lg) ∧
        lk 3 e1 = .c t ∧ lk 4 e1 = .c (.int .i64 k) ∧ lk 6 e1 = .c (.ptr l 0) ∧ lk 7 e1 = .c (.int .i64 b) ∧ lk 14 e1 = .c (.sl fl 3 (Qm cs)) ∧ lk 15 e1 = .c (.int .i64 cs.length) ∧ lk 16 e1 = .c (.int .i64 k) ∧
        lk 24 e1 = .c (.sl false 5 (Ql q.blocks)) ∧ lk 25 e1 = .c (.int .i64 q.blocks.length) ∧ lk 26 e1 = .c (.int .i64 b) ∧ lk 33 e1 = .c (.int .i64 y.ins.length) ∧ lk 34 e1 = .c (.int .i64 i)) y.ins.length ?_ ?_)
       ·exact ⟨0, t, Lg, by omega, by omega, by simpa [itB, Q4z] using hgr, kn, rfl, rfl, rfl, rfl, rfl, rfl, rfl, rfl, rfl, rfl, rfl, rfl⟩
       ·clear hgr kn htw l3 l4 l6 l14 l15 l16 l24 l25 l26 hx8
        rintro m3 e3 H9 ⟨i, t, Lg, hm3, hi, hgr, kn, l3, l4, l6, l7, l14, l15, l16, l24, l25, l26, l33, l34⟩
        have htw := hgr.isOw
        refine Qa ?_
        simp only [go_sem, l3, l4, l6, l7, l14, l15, l16, l24, l25, l26, l33, l34, htw]
        refine Qh (Qd rfl ?_ ?_)
        ·intro hc3
         have hilt : i < y.ins.length := by simpa using hc3
         have hidl := Q40 q b i
         refine Qf ?_
         try simp only [go_sem]
         refine Qdm (fun e2 H3 => ∃ (t : C) (Lg : List (Nat × Obj)), Gr Lg 1 (Qe9 (itU cs k ++ itC q k b ++ itB k b (Q4z q b (i + 1)))) t ∧ Kn H H3 [] (imE q false l yi yp ss pr ++ Lg) ∧
          lk 3 e2 = .c t ∧ lk 4 e2 = .c (.int .i64 k) ∧ lk 6 e2 = .c (.ptr l 0) ∧ lk 7 e2 = .c (.int .i64 b) ∧ lk 14 e2 = .c (.sl fl 3 (Qm cs)) ∧ lk 15 e2 = .c (.int .i64 cs.length) ∧ lk 16 e2 = .c (.int .i64 k) ∧
          lk 24 e2 = .c (.sl false 5 (Ql q.blocks)) ∧ lk 25 e2 = .c (.int .i64 q.blocks.length) ∧ lk 26 e2 = .c (.int .i64 b) ∧ lk 33 e2 = .c (.int .i64 y.ins.length) ∧ lk 34 e2 = .c (.int .i64 i)) ?_ ?_
         ·intro Q hnr _ _
          refine Qc ?_
          refine Qa ?_
          simp only [go_sem, htw]
          refine Qa ?_
          simp only [go_sem, htw]
          refine Qaxr (F := H9) hqok hbl (by rw [hy]; exact hilt) him hlv kn.mid fun H10 k2 => ?_
          have kn : Kn H H10 [] (imE q false l yi yp ss pr ++ Lg) := by simpa using kn.comp k2 rfl
          refine Qd rfl ?_ ?_
          ·intro hc4
           refine Qq ?_
           simp only [go_sem, htw]
           refine kn.growR (new := [[.sl true 1 (Qbp [k, b, i])]]) hgr (.mk' _ _ _ _) (by intro r hr; simp at hr; subst hr; rfl) (by
            simp only [Qahv, LIM, List.length_append, List.length_cons, List.length_nil, itB, List.length_map] at hsm ⊢; omega) fun t2 Lg2 H11 hgr2 ht2 kn => ?_
           simp only [go_sem, Qo2, ht2]
           refine hnr _ _ ⟨t2, Lg2, ?_, kn, rfl, rfl, rfl, rfl, rfl, rfl, rfl, rfl, rfl, rfl, rfl, rfl⟩
           rw [Qi1, hc4, if_pos rfl]
           have e : itU cs k ++ itC q k b ++ itB k b (Q4z q b i ++ [i]) = (itU cs k ++ itC q k b ++ itB k b (Q4z q b i)) ++ [[k, b, i]] := by simp [itB]
           rw [e, ← Q54]; exact hgr2
          ·intro hc4
           refine Qf ?_
           try simp only [go_sem]
           refine hnr _ _ ⟨t, Lg, ?_, kn, rfl, rfl, rfl, rfl, rfl, rfl, rfl, rfl, rfl, rfl, rfl, rfl⟩
           rw [Qi1, hc4]; simpa using hgr
         ·rintro e4 H10 ⟨t2, Lg2, hgr2, kn, l3, l4, l6, l7, l14, l15, l16, l24, l25, l26, l33, l34⟩
          have ht2 := hgr2.isOw
          refine Qq ?_
          simp only [go_sem, l3, l4, l6, l7, l14, l15, l16, l24, l25, l26, l33, l34, ht2]
          refine ⟨Qo (by omega) (by omega), ?_⟩
          show ∃ m, _
          exact ⟨y.ins.length - (i + 1), by omega, i + 1, t2, Lg2, rfl, by omega, hgr2, kn, rfl, rfl, rfl, rfl, rfl, rfl, rfl, rfl, rfl, rfl, rfl, rfl⟩
        ·intro hc3
         have hie : i = Qi2 q b := by have : y.ins.length ≤ i := (by simpa using hc3); omega
         refine Qt ?_
         simp only [go_sem, X.next]
         refine hnr _ _ ⟨t, Lg, ?_, kn, rfl, rfl, rfl, rfl, rfl, rfl, rfl, rfl, rfl⟩
         rw [Qai8, ← hie, ← List.append_assoc]; exact hgr
      ·rintro e4 H7 ⟨t2, Lg2, hgr2, kn, l3, l4, l6, l14, l15, l16, l24, l25, l26⟩
       have ht2 := hgr2.isOw
       refine Qq ?_
       simp only [go_sem, l3, l4, l6, l14, l15, l16, l24, l25, l26, ht2]
       refine ⟨Qo (by omega) (by omega), ?_⟩
       show ∃ m, _
       exact ⟨q.blocks.length - (b + 1), by omega, b + 1, t2, Lg2, rfl, by omega, hgr2, kn, rfl, rfl, rfl, rfl, rfl, rfl, rfl, rfl, rfl⟩
     ·intro hc2
      have hbe : b = q.blocks.length := by have : q.blocks.length ≤ b := (by simpa using hc2); omega
      subst hbe
      refine Qt ?_
      simp only [go_sem, X.next]
      refine hnr _ _ ⟨t, Lg, ?_, Kn.drop (B := imE q false l yi yp ss pr) (kn.perm List.perm_append_comm), rfl, rfl, rfl, rfl⟩
      rw [Q41 hlt, hq]; exact hgr
   ·rintro e2 H3 ⟨t2, Lg2, hgr2, kn, l3, l14, l15, l16⟩
    have ht2 := hgr2.isOw
    refine Qq ?_
    simp only [go_sem, l3, l14, l15, l16, ht2]
    refine ⟨Qo (by omega) (by omega), ?_⟩
    show ∃ m, _
    exact ⟨cs.length - (k + 1), by omega, k + 1, t2, Lg2, rfl, by omega, hgr2, kn, rfl, rfl, rfl, rfl⟩
  ·intro hc1
   have hke : k = cs.length := by have : cs.length ≤ k := (by simpa using hc1); omega
   subst hke
   refine Qt ?_
   simp only [go_sem, X.next]
   refine Qa ?_
   simp only [go_sem, htw]
   refine Qj ?_
   simp only [go_sem, X.next, Qz, Qac, Qop, List.mem_singleton, forall_eq, RS.op, htw]
   exact ⟨_, .c _ _ (hgr.frzR kn (Qahu _)), hK _ kn.fin⟩
noncomputable def Qe8 (cs : List CodeD) : Int := if Qfs cs = true then (Qfr Qe3 cs : Nat) else -1
theorem Qahe {cs : List CodeD} (hfit : ∀ c ∈ cs, c.fits) (hK : ∀ (H' : Heap), Upd H H' [] → K (.c (.int .i64 (Qe8 cs))) H') :
  Qp prog Qeq [.ag [.sl fl 3 (Qm cs)]] H K := by
 refine Q0 ?_
 refine Qb Qat Qajh ?_
 refine Qa ?_
 simp only [go_sem]
 refine Q4 ?_
 refine Qa ?_
 simp only [go_sem]
 refine Qdr hfit fun H1 hu => ?_
 have kn := (Kn.start0 H).call0 hu
 simp only [go_sem, Qlv]
 refine Qh (Qd rfl ?_ ?_)
 ·intro hc
  have hc := Quv hc
  refine Qa ?_
  simp only [go_sem]
  refine Qj ?_
  simp only [go_sem, X.next, Qz, Qac, Qkw, List.mem_singleton, forall_eq, RS.op]
  have hK := hK _ kn.fin
  rw [Qe8, hc] at hK
  exact ⟨_, .c _ _ (Qi rfl), hK⟩
 intro hc
 have hg := Qg8 hc
 have h800 := (of_decide_eq_true hg).2.2
 have hc4 : cs.length ≤ 4 := by have := (of_decide_eq_true hg).1; omega
 have hall : Qe8 cs = (Qfr Qe3 cs : Nat) := by rw [Qe8, if_pos hg]
 rw [hall] at hK
 refine Qf ?_
 try simp only [go_sem]
 refine Qa ?_
 simp only [go_sem]
 refine Q4 ?_
 refine Qa ?_
 simp only [go_sem, Qs]
 intro _
 refine Qh (Qc (Qu (fun m e1 H1 => ∃ (k : Nat), m = cs.length - k ∧ k ≤ cs.length ∧ Kn H H1 [] [] ∧
  lk 3 e1 = .c (.int .i64 (Qfr Qe3 (cs.take k) : Nat)) ∧ lk 10 e1 = .c (.sl fl 3 (Qm cs)) ∧ lk 11 e1 = .c (.int .i64 cs.length) ∧ lk 12 e1 = .c (.int .i64 k)) cs.length ?_ ?_))
 ·exact ⟨0, by omega, by omega, kn, rfl, rfl, rfl, rfl⟩
 ·clear kn
  rintro m e1 H2 ⟨k, hm, hk, kn, l3, l10, l11, l12⟩
  refine Qa ?_
  simp only [go_sem, l3, l10, l11, l12]
  refine Qh (Qd rfl ?_ ?_)
  ·intro hc1
   have hlt : k < cs.length := by simpa using hc1
   have hqok := Q0e hg hlt
   have hss := Qbh (f := Qe3) hlt
   have hle := Qr2 (f := Qe3) (l := cs) (k + 1)
   have hqf := hfit _ (List.getElem_mem hlt)
   obtain ⟨q, hq⟩ : ∃ q, cs[k] = q := ⟨_, rfl⟩
   rw [hq] at hqok hss hqf
   have hb1 := hqok.b1
   refine Qf ?_
   try simp only [go_sem]
   refine Qh (Qc ?_)
   refine Qa ?_
   simp only [go_sem, hlt, Qs, Q7 _ _ hlt, CodeD.cells, hq]
   intro x5 hx5 H3 h3
   have kn := kn.al hx5 h3
   have hx5 := kn.l 0 rfl
   simp only [go_sem, Qlw, hx5]
   intro H4 h4
   have kn : Kn H H4 [] ([] ++ [(x5, .st [.int .i64 q.params, .int .i64 q.regs, .sl false 5 (Ql q.blocks)])]) := kn.stL 0 rfl h4
   have hx5 := kn.l 0 rfl
   refine Qq ?_
   simp only [go_sem, hx5]
   refine Qke hqf hb1 fun H5 hu => ?_
   have kn := kn.call0 hu
   simp only [go_sem, Qlx]
   refine ⟨Qo (by omega) (by omega), ?_⟩
   refine Qq ?_
   simp only [go_sem]
   refine ⟨Qo (by omega) (by omega), ?_⟩
   show ∃ m, _
   refine ⟨cs.length - (k + 1), by omega, k + 1, rfl, by omega, kn.drop, ?_, rfl, rfl, rfl⟩
   rw [hss]; rfl
  ·intro hc1
   have hge : cs.length ≤ k := by simpa using hc1
   refine Qt ?_
   simp only [go_sem, X.next]
   refine Qa ?_
   simp only [go_sem, l3]
   refine Qj ?_
   simp only [go_sem, X.next, Qz, Qac, Qkw, List.mem_singleton, forall_eq, RS.op]
   rw [List.take_of_length_le hge]
   exact ⟨_, .c _ _ (Qi rfl), hK _ kn.fin⟩
end Go.AE.Y

namespace Go.AE.Y
open Go.Proofs.Tryz
def Qjh : List Item := fJ 6 2 1 :: .e none none (.sto 1 (.t 6) (.t 5)) :: []
def Q3b : SC := (.seq (.reg ( tJ 7 4 1 :: .e none none (.sto 4 (.t 2) (.t 7)) :: []) [2]) .ret)
def Q3c : SC := (.seq (.reg ( fJ 3 2 1 :: lJ 4 3 :: aJ 5 Qee [.t 4] :: Qjh) [1, 2]) Q3b)
def Qadt : SC := (.seq (.reg ( eI 1 (.boxm (.t 0)) :: eI 2 (.alloc [.int .i64 0, .int .i64 0, .sl true 1 [], .int .i64 0]) :: []) [1, 2]) Q3c)
def Qs2 : List RS := [.cell 2 4 true]
theorem Qac5 : mFn prog Qcw 1 8 Qadt Qs2 = true := by kernel_rfl
def Qgj : List Item := fJ 6 0 1 :: .e none none (.sto 1 (.t 6) (.t 5)) :: []
def Qgk : List Item := fJ 10 1 1 :: .e none none (.sto 1 (.t 10) (.t 9)) :: []
def Qgl : List Item := fJ 14 4 1 :: .e none none (.sto 1 (.t 14) (.t 13)) :: []
def Qws : SC := (.seq (.reg ( tJ 15 5 1 :: .e none none (.sto 5 (.t 2) (.t 15)) :: []) [2]) .ret)
def Qwt : SC := (.seq (.reg ( fJ 11 4 1 :: lJ 12 11 :: aJ 13 Qee [.t 12] :: Qgl) [1, 2]) Qws)
def Qwu : SC := (.seq (.reg ( fJ 7 1 1 :: lJ 8 7 :: eI 9 (.call Qcs [.t 8, .k (.c (.fn Qcw []))]) :: Qgk) [1, 2]) Qwt)
def Qwv : SC := (.seq (.reg ( fJ 3 0 1 :: lJ 4 3 :: eI 5 (.call Qct [.t 4, .k (.c (.fn Qcx []))]) :: Qgj) [1, 2]) Qwu)
def Q3a : SC := (.seq (.reg ( eI 1 (.boxm (.t 0)) :: eI 2 (.alloc [.sl true 2 [], .sl true 4 [], .int .i64 0, .int .i64 0, .sl true 1 []]) :: []) [1, 2]) Qwv)
def Qln : List RS := [.cell 2 5 true]
theorem Q2q : mFn prog Qb5 1 16 Q3a Qln = true := by kernel_rfl
def Qhv : List Item := fJ 6 2 1 :: .e none none (.sto 1 (.t 6) (.t 5)) :: []
def Qy5 : SC := (.seq (.reg ( tJ 7 3 1 :: .e none none (.sto 3 (.t 2) (.t 7)) :: []) [2]) .ret)
def Qy6 : SC := (.seq (.reg ( fJ 3 2 1 :: lJ 4 3 :: eI 5 (.call Qbv [.t 4, .k (.c (.fn Qb5 []))]) :: Qhv) [1, 2]) Qy5)
def Q7n : SC := (.seq (.reg ( eI 1 (.boxm (.t 0)) :: eI 2 (.alloc [.int .i64 0, .int .i64 0, .sl true 5 []]) :: []) [1, 2]) Qy6)
def Qos : List RS := [.cell 2 3 true]
theorem Q6a : mFn prog Qf1 1 8 Q7n Qos = true := by kernel_rfl
def Qjn : List Item := .chk 11 none (.ld 3 true (.t 1)) :: .chk 13 none (.ld 3 true (.t 1)) :: mJ 3 12 :: .e none none (.sto 3 (.t 4) (.t 14)) :: []
def Qjo : List Item := eI 4 (.alloc [.int .i64 0, .int .i64 0, .sl true 5 []]) :: Qjn
def Qjp : List Item := .chk 13 none (.ld 3 true (.t 1)) :: aJ 14 Qf1 [.t 13] :: Qjo
def Qjq : List Item := .e none none (.sto 1 (.t 7) (.t 27)) :: []
def Qjr : List Item := eI 7 (.alloc [.mnil]) :: Qjq
def Qjs : List Item := kJ 35 28 :: fJ 36 0 35 :: .e none none (.sto 1 (.t 36) (.t 34)) :: []
def Qjt : List Item := mJ 9 44 :: .e none none (.sto 4 (.t 10) (.t 46)) :: []
def Qju : List Item := oJ 51 50 :: []
def Qjv : List Item := mJ 8 55 :: []
def Q3n : SC := (.cond (.t 51) (.reg ( mJ 52 8 :: tJ 53 4 10 :: fI 54 (.bsl 4 [.t 53]) :: eI 55 (.app 4 (.t 52) (.t 54)) :: Qjv) [1, 2, 3, 4, 5, 6, 8, 17, 18, 40, 41, 42]) .skip)
def Qy8 : SC := (.seq (.reg ( mJ 47 3 :: mJ 48 5 :: mJ 49 9 :: aJ 50 Qci [.t 47, .t 48, .t 49] :: Qju) [1, 2, 3, 4, 5, 6, 8, 10, 17, 18, 40, 41, 42, 51]) Q3n)
def Qy9 : SC := (.reg ( cJ 56 .add 42 1 :: mJ 42 56 :: []) [1, 2, 3, 4, 5, 6, 8, 17, 18, 40, 41, 42])
def Qza : SC := (.seq (.block 5 (.seq (.reg ( mJ 44 42 :: iJ 45 4 40 42 :: tJ 46 4 45 :: eI 10 (.alloc [.int .i64 0, .int .i64 0, .sl true 1 [], .int .i64 0]) :: Qjt) [1, 2, 3, 4, 5, 6, 8, 9, 10, 17, 18, 40, 41, 42]) Qy8)) Qy9)
def Qww : SC := (.seq (.reg ( bJ 43 .lss 42 41 :: []) [1, 2, 3, 4, 5, 6, 8, 17, 18, 40, 41, 42, 43]) (.seq (.cond (.t 43) .skip (.exit 4)) Qza))
def Qzb : SC := (.reg ( mJ 57 6 :: mJ 58 8 :: kJ 59 57 :: fJ 60 1 59 :: .e none none (.sto 1 (.t 60) (.t 58)) :: []) [1, 2, 3, 4, 17, 18])
def Qzc : SC := (.seq (.seq (.reg ( mJ 37 6 :: kJ 38 37 :: fJ 39 1 38 :: lJ 40 39 :: nJ 41 40 :: fI 42 (.mv (kI 0)) :: []) [1, 2, 3, 4, 5, 6, 8, 17, 18, 40, 41, 42]) (.block 4 (.loop Qww))) Qzb)
def Qzd : SC := (.seq (.reg ( fI 8 (.mv (.k (.c (.sl true 4 [])))) :: []) [1, 2, 3, 4, 5, 6, 8, 17, 18]) Qzc)
def Qze : SC := (.seq (.reg ( mJ 28 6 :: mJ 29 6 :: kJ 30 29 :: fJ 31 0 30 :: lJ 32 31 :: fI 33 (.mkf Qay [.t 7]) :: aJ 34 Qcu [.t 32, .t 33] :: Qjs) [1, 2, 3, 4, 5, 6, 17, 18]) Qzd)
def Qzf : SC := (.seq (.reg ( mJ 25 3 :: mJ 26 5 :: aJ 27 Qbe [.t 25, .t 26, kI (-1)] :: Qjr) [1, 2, 3, 4, 5, 6, 7, 17, 18]) Qze)
def Qzg : SC := (.seq (.reg ( fJ 21 2 4 :: lJ 22 21 :: mJ 23 5 :: iJ 24 5 22 23 :: mJ 6 24 :: []) [1, 2, 3, 4, 5, 6, 17, 18]) Qzf)
def Qzh : SC := (.reg ( cJ 61 .add 18 1 :: mJ 18 61 :: []) [1, 2, 3, 4, 17, 18])
def Qzi : SC := (.seq (.block 3 (.seq (.reg ( mJ 20 18 :: mJ 5 20 :: []) [1, 2, 3, 4, 5, 17, 18]) Qzg)) Qzh)
def Qwx : SC := (.seq (.reg ( bJ 19 .lss 18 17 :: []) [1, 2, 3, 4, 17, 18, 19]) (.seq (.cond (.t 19) .skip (.exit 2)) Qzi))
def Qhw : List Item := bJ 66 .eql 63 65 :: []
def Qhx : List Item := .chk 64 none (.ld 3 true (.t 1)) :: aJ 65 Qbu [.t 64] :: Qhw
def Qzj : SC := (.cond (.t 66) (.seq (.reg ( tJ 67 3 4 :: .e none none (.sto 3 (.t 2) (.t 67)) :: []) [2]) .ret) .skip)
def Qzk : SC := (.reg ( tJ 68 3 4 :: .e none none (.sto 3 (.t 1) (.t 68)) :: []) [1, 2])
def Qzl : SC := (.seq (.seq (.dreg 5 [0, 2, 1, 2, 3, 4] ( tJ 62 3 4 :: tJ 64 3 1 :: aJ 63 Qbu [.t 62] :: Qhx) [1, 2, 4, 66]) Qzj) Qzk)
def Qzm : SC := (.seq (.seq (.reg ( fJ 15 2 4 :: lJ 16 15 :: nJ 17 16 :: fI 18 (.mv (kI 0)) :: []) [1, 2, 3, 4, 17, 18]) (.block 2 (.loop Qwx))) (.seq .gh Qzl))
def Qwy : SC := (.block 1 (.seq (.dreg 4 [0, 2, 1, 2, 3, 4, 0, 2, 5, 6] ( tJ 11 3 1 :: tJ 13 3 1 :: aJ 12 Qex [.t 11] :: Qjp) [1, 2, 3, 4]) Qzm))
def Qad9 : SC := (.seq (.reg ( eI 1 (.boxm (.t 0)) :: eI 2 (.alloc [.int .i64 0, .int .i64 0, .sl true 5 []]) :: []) [1, 2]) (.block 0 (.loop Qwy)))
def Qs8 : List RS := [.cell 2 3 true]
theorem Qadb : mFn prog Qb6 1 69 Qad9 Qs8 = true := by kernel_rfl
end Go.AE.Y

namespace Go.AE.Y
attribute [local go_sem] cond_true cond_false Bool.not_true Bool.not_false
open Go.Proofs.Tryz
variable {H H0 F : Heap} {K : V → Heap → Prop} {E L : List (Nat × Obj)}
theorem PhiD.take2 (x : PhiD) : x.cells.take 2 = x.cells := rfl
theorem PhiD.allOw (x : PhiD) : (x.cells.all fun c => !c.isOw) = true := rfl
theorem PhiD.len2 (x : PhiD) : x.cells.length = 2 := rfl
theorem Qayt {x : PhiD} (hl : x.args.length ≤ LIM) (hK : ∀ H', Upd H H' [] → K (.ag x.cells) H') : Qp prog Qcx [.ag x.cells] H K := by
 refine Q0 ?_
 refine Qb Qat Qaji ?_
 refine Qa ?_
 simp only [go_sem, PhiD.cells]
 intro x2 hx2 H1 h1
 have kn := (Kn.start0 H).al hx2 h1
 refine Qan ?_
 simp only [go_sem]
 refine Qain kn hl fun t Lg H2 hgr how kn => ?_
 have hx2 := kn.l 0 rfl
 simp only [go_sem, Qly, how, hx2]
 intro H3 h3
 have kn : Kn H H3 [] ([(x2, .st [.int .i64 x.to, t])] ++ Lg) := kn.stL 0 rfl h3
 have hx2 := kn.l 0 rfl
 refine Qj ?_
 simp only [go_sem, Qz, Qac, Qwd, List.mem_singleton, forall_eq, RS.op, how, hx2]
 exact ⟨_, FrzL.ag (.cons (Qi rfl) (.cons (hgr.frz kn (Qx _)) .nil)), hK _ kn.fin⟩
theorem Qays {x : InsD} (hl : x.args.length ≤ LIM) (hK : ∀ H', Upd H H' [] → K (.ag x.cells) H') : Qp prog Qcw [.ag x.cells] H K := by
 refine Q0 ?_
 refine Qb Qat Qac5 ?_
 refine Qa ?_
 simp only [go_sem, InsD.cells]
 intro x1 hx1 H0 h0
 have kn := (Kn.start0 H).al hx1 h0
 intro x2 hx2 H1 h1
 have kn := kn.al hx2 h1
 have hx1 := kn.l 0 rfl
 refine Qa ?_
 simp only [go_sem, hx1]
 refine Qain kn hl fun t Lg H2 hgr how kn => ?_
 have hx1 := kn.l 0 rfl
 simp only [go_sem, Qjh, how, hx1]
 intro H3 h3
 have kn := kn.stL 0 rfl h3
 have hx1 := kn.l 0 rfl
 have hx2 := kn.l 1 rfl
 refine Qa ?_
 simp only [go_sem, hx1, hx2, how]
 intro H4 h4
 have kn : Kn H H4 [] ([(x1, .st [.int .i64 x.op, .int .i64 x.to, t, .int .i64 x.n]), (x2, .st [.int .i64 x.op, .int .i64 x.to, t, .int .i64 x.n])] ++ Lg) := kn.stL 1 rfl h4
 have hx2 := kn.l 1 rfl
 refine Qj ?_
 simp only [go_sem, Qz, Qac, Qs2, List.mem_singleton, forall_eq, RS.op, how, hx2]
 exact ⟨_, FrzL.ag (.cons (Qi rfl) (.cons (Qi rfl) (.cons (hgr.frz kn (Qx _)) (.cons (Qi rfl) .nil)))), hK _ kn.fin⟩
theorem Qa7q {l : List PhiD} {fl : Bool} (hl : l.length ≤ 2 ^ 38) (ha : ∀ x ∈ l, x.args.length ≤ LIM) (kn : Kn H0 H E L) (hK : ∀ t Lg H', Gr Lg 2 (Q1 l) t → Kn H0 H' E (L ++ Lg) → K (.c t) H') :
  Qp prog Qct [.c (.sl fl 2 (Q1 l)), .c (.fn Qcx [])] H K := by
 refine Qb Qat Qus ?_
 refine Qa ?_
 simp only [go_sem]
 refine Qa ?_
 simp only [go_sem]
 refine Q4 ?_
 refine Qa ?_
 simp only [go_sem, Qy]
 intro _
 refine Qh (Qc (Qu (fun m e1 H1 => ∃ (i : Nat) (t : C) (Lg : List (Nat × Obj)), m = l.length - i ∧ i ≤ l.length ∧ Gr Lg 2 (Q1 (l.take i)) t ∧ Kn H0 H1 E (L ++ Lg) ∧
  e1 = [(1, .c (.fn Qcx [])), (5, .c t), (8, .c (.sl fl 2 (Q1 l))), (9, .c (.int .i64 l.length)), (10, .c (.int .i64 i))]) l.length ?_ ?_))
 ·exact ⟨0, _, [], by omega, by omega, .nil 2, by simpa using kn, rfl⟩
 ·clear kn
  rintro m e1 H1 ⟨i, t, Lg, hm, hi, hgr, kn, rfl⟩
  have htw := hgr.isOw
  refine Qa ?_
  simp only [go_sem, htw]
  refine Qh (Qd rfl ?_ ?_)
  ·intro hc
   have hlt : i < l.length := by simpa using hc
   obtain ⟨p, hp⟩ : ∃ p, l[i] = p := ⟨_, rfl⟩
   have hpm : p ∈ l := by rw [← hp]; exact List.getElem_mem hlt
   have htk : l.take (i + 1) = l.take i ++ [p] := by rw [List.take_succ_eq_append_getElem hlt, hp]
   refine Qf ?_
   try simp only [go_sem]
   refine Qh (Qc ?_)
   refine Qa ?_
   simp only [go_sem, htw, hlt, Qy, Qa2 _ _ hlt, PhiD.cells, hp]
   intro x7 hx7 H2 h2
   have kn := kn.al hx7 h2
   have hx7 : H2 x7 = .st [.int .i64 0, .sl true 1 []] := (kn.get (x7, .st [.int .i64 0, .sl true 1 []]) (by simp)).1
   simp only [go_sem, Qd4, hx7, htw]
   intro H3 h3
   have kn : Kn H0 H3 E ((L ++ [(x7, .st [.int .i64 p.to, .sl false 1 (Qe p.args)])]) ++ Lg) := by
    have := kn.stL (L ++ Lg).length (x := x7) (o := .st [.int .i64 0, .sl true 1 []]) (by simp) h3
    refine Kn.perm (by simpa using this) (Qr fun f hf h0 hc hp => by simp only [hf]; omega)
   have hx7 : H3 x7 = .st [.int .i64 p.to, .sl false 1 (Qe p.args)] := (kn.get (x7, .st [.int .i64 p.to, .sl false 1 (Qe p.args)]) (by simp)).1
   refine Qq ?_
   simp only [go_sem, htw, hx7, List.append_nil, List.map_nil]
   refine Qayt (x := p) (ha p hpm) fun H4 hu => ?_
   have kn := kn.call0 hu
   simp only [go_sem, Qd6, htw, PhiD.cells]
   have hsm : (l.take i).length ≤ l.length := by rw [List.length_take]; omega
   refine kn.growR (new := Q1 [p]) hgr (.mk' _ _ _ _) (Q6d _) (by simp only [Qy, LIM, List.length_cons, List.length_nil]; omega) fun t2 Lg2 H5 hgr2 ht2 kn => ?_
   simp only [go_sem, Qd5, ht2]
   refine Qq ?_
   simp only [go_sem, X.next, ht2]
   refine ⟨Qo (by omega) (by omega), l.length - (i + 1), by omega, i + 1, t2, Lg2, rfl, by omega, ?_, ?_, rfl⟩
   ·rw [htk]; have : Q1 (l.take i ++ [p]) = Q1 (l.take i) ++ Q1 [p] := by simp [Q1]
    rw [this]; exact hgr2
   ·exact Kn.drop (B := [(x7, .st [.int .i64 p.to, .sl false 1 (Qe p.args)])]) (kn.perm (Qr fun f hf h0 hc hp => by simp only [hf]; omega))
  ·intro hc
   have hge : l.length ≤ i := by simpa using hc
   rw [List.take_of_length_le hge] at hgr
   refine Qt ?_
   simp only [go_sem, X.next]
   refine Qa ?_
   simp only [go_sem, htw]
   refine Qj ?_
   simp only [go_sem, Qz, Qac, Qgh, List.mem_singleton, forall_eq, RS.op, htw]
   exact hK t Lg H1 hgr kn
theorem Qa7p {l : List InsD} {fl : Bool} (hl : l.length ≤ 2 ^ 38) (ha : ∀ x ∈ l, x.args.length ≤ LIM) (hK : ∀ H', Upd H H' [] → K (.c (.sl false 4 (Qaj l))) H') :
  Qp prog Qcs [.c (.sl fl 4 (Qaj l)), .c (.fn Qcw [])] H K := by
 refine Q0 ?_
 refine Qb Qat Qur ?_
 refine Qa ?_
 simp only [go_sem]
 refine Qa ?_
 simp only [go_sem]
 refine Q4 ?_
 refine Qa ?_
 simp only [go_sem, Qab]
 intro _
 refine Qh (Qc (Qu (fun m e1 H1 => ∃ (i : Nat) (t : C) (Lg : List (Nat × Obj)), m = l.length - i ∧ i ≤ l.length ∧ Gr Lg 4 (Qaj (l.take i)) t ∧ Kn H H1 [] ([] ++ Lg) ∧
  e1 = [(1, .c (.fn Qcw [])), (5, .c t), (8, .c (.sl fl 4 (Qaj l))), (9, .c (.int .i64 l.length)), (10, .c (.int .i64 i))]) l.length ?_ ?_))
 ·exact ⟨0, _, [], by omega, by omega, .nil 4, Kn.start0 H, rfl⟩
 ·rintro m e1 H1 ⟨i, t, Lg, hm, hi, hgr, kn, rfl⟩
  have htw := hgr.isOw
  refine Qa ?_
  simp only [go_sem, htw]
  refine Qh (Qd rfl ?_ ?_)
  ·intro hc
   have hlt : i < l.length := by simpa using hc
   obtain ⟨p, hp⟩ : ∃ p, l[i] = p := ⟨_, rfl⟩
   have hpm : p ∈ l := by rw [← hp]; exact List.getElem_mem hlt
   have htk : l.take (i + 1) = l.take i ++ [p] := by rw [List.take_succ_eq_append_getElem hlt, hp]
   refine Qf ?_
   try simp only [go_sem]
   refine Qh (Qc ?_)
   refine Qa ?_
   simp only [go_sem, htw, hlt, Qab, Qa9 _ _ hlt, InsD.cells, hp]
   intro x7 hx7 H2 h2
   have kn := kn.al hx7 h2
   have hx7 : H2 x7 = .st [.int .i64 0, .int .i64 0, .sl true 1 [], .int .i64 0] := (kn.get (x7, .st [.int .i64 0, .int .i64 0, .sl true 1 [], .int .i64 0]) (by simp)).1
   simp only [go_sem, Qd1, hx7, htw]
   intro H3 h3
   have kn : Kn H H3 [] ([(x7, .st [.int .i64 p.op, .int .i64 p.to, .sl false 1 (Qe p.args), .int .i64 p.n])] ++ Lg) := by
    have := kn.stL ([] ++ Lg).length (x := x7) (o := .st [.int .i64 0, .int .i64 0, .sl true 1 [], .int .i64 0]) (by simp) h3
    refine Kn.perm (by simpa using this) ?_
    exact List.perm_append_comm
   have hx7 := kn.l 0 rfl
   refine Qq ?_
   simp only [go_sem, htw, hx7, List.append_nil, List.map_nil]
   refine Qays (x := p) (ha p hpm) fun H4 hu => ?_
   have kn := kn.call0 hu
   simp only [go_sem, Qd3, htw, InsD.cells]
   have hsm : (l.take i).length ≤ l.length := by rw [List.length_take]; omega
   refine kn.growR (new := Qaj [p]) hgr (.mk' _ _ _ _) (Qfw _) (by simp only [Qab, LIM, List.length_cons, List.length_nil]; omega) fun t2 Lg2 H5 hgr2 ht2 kn => ?_
   simp only [go_sem, Qd2, ht2]
   refine Qq ?_
   simp only [go_sem, X.next, ht2]
   refine ⟨Qo (by omega) (by omega), l.length - (i + 1), by omega, i + 1, t2, Lg2, rfl, by omega, ?_, ?_, rfl⟩
   ·rw [htk]; have : Qaj (l.take i ++ [p]) = Qaj (l.take i) ++ Qaj [p] := by simp [Qaj]
    rw [this]; exact hgr2
   ·exact Kn.drop (B := [(x7, .st [.int .i64 p.op, .int .i64 p.to, .sl false 1 (Qe p.args), .int .i64 p.n])]) (kn.perm List.perm_append_comm)
  ·intro hc
   have hge : l.length ≤ i := by simpa using hc
   rw [List.take_of_length_le hge] at hgr
   refine Qt ?_
   simp only [go_sem, X.next]
   refine Qa ?_
   simp only [go_sem, htw]
   refine Qj ?_
   simp only [go_sem, Qz, Qac, Qgg, List.mem_singleton, forall_eq, RS.op, htw]
   exact ⟨_, .c _ _ (hgr.frz kn (Qfw _)), hK _ kn.fin⟩
def kRow (y : BlkD) (pc : C) : List C := [pc, .sl false 4 (Qaj y.ins), .int .i64 y.jump, .int .i64 y.on, .sl false 1 (Qe y.next)]
structure BlkD.cl (y : BlkD) : Prop where
 i : y.ins.length ≤ 2 ^ 38
 p : y.phis.length ≤ 2 ^ 38
 n : y.next.length ≤ LIM
 ia : ∀ x ∈ y.ins, x.args.length ≤ LIM
 pa : ∀ x ∈ y.phis, x.args.length ≤ LIM
theorem Qamm {y : BlkD} (hy : y.cl) (hK : ∀ pc N H', Gr N 2 (Q1 y.phis) pc → Kn H H' [] N → K (.ag (kRow y pc)) H') : Qp prog Qb5 [.ag y.cells] H K := by
 refine Qew ?_
 refine Qb Qat Q2q ?_
 refine Qa ?_
 simp only [go_sem, BlkD.cells]
 intro x1 hx1 H0 h0
 have kn := (Kn.start0 H).al hx1 h0
 intro x2 hx2 H1 h1
 have kn := kn.al hx2 h1
 have hx1 := kn.l 0 rfl
 refine Qa ?_
 simp only [go_sem, hx1]
 refine Qa7q hy.p hy.pa kn fun pc N H2 hgp kn => ?_
 have hpw := hgp.isOw
 have hx1 := kn.l 0 rfl
 simp only [go_sem, Qgj, hpw, hx1]
 intro H3 h3
 have kn := kn.stL 0 rfl h3
 have hx1 := kn.l 0 rfl
 refine Qa ?_
 simp only [go_sem, hx1, hpw]
 refine Qa7p hy.i hy.ia fun H4 hu => ?_
 have kn := kn.call0 hu
 have hx1 := kn.l 0 rfl
 simp only [go_sem, Qgk, hpw, hx1]
 intro H5 h5
 have kn := kn.stL 0 rfl h5
 have hx1 := kn.l 0 rfl
 refine Qa ?_
 simp only [go_sem, hx1, hpw]
 refine Qain kn hy.n fun t Lg H6 hgr how kn => ?_
 have hx1 := kn.l 0 rfl
 simp only [go_sem, Qgl, hpw, how, hx1]
 intro H7 h7
 have kn := kn.stL 0 rfl h7
 have hx1 := kn.l 0 rfl
 have hx2 := kn.l 1 rfl
 refine Qa ?_
 simp only [go_sem, hx1, hx2, hpw, how]
 intro H8 h8
 have kn : Kn H H8 [] (([(x1, .st [pc, .sl false 4 (Qaj y.ins), .int .i64 y.jump, .int .i64 y.on, t]), (x2, .st [pc, .sl false 4 (Qaj y.ins), .int .i64 y.jump, .int .i64 y.on, t])] ++ Lg) ++ N) :=
  (kn.stL 1 rfl h8).perm (Qr fun f hf h0 hc hp => by
   have e1 := hc (x1, .st [pc, .sl false 4 (Qaj y.ins), .int .i64 y.jump, .int .i64 y.on, t]) ([(x2, .st [pc, .sl false 4 (Qaj y.ins), .int .i64 y.jump, .int .i64 y.on, t])] ++ N ++ Lg)
   have e2 := hc (x1, .st [pc, .sl false 4 (Qaj y.ins), .int .i64 y.jump, .int .i64 y.on, t]) [(x2, .st [pc, .sl false 4 (Qaj y.ins), .int .i64 y.jump, .int .i64 y.on, t])]
   show f ((x1, _) :: ([(x2, _)] ++ N ++ Lg)) = _
   rw [e1]
   simp only [hf, e2]; omega)
 have hx2 := kn.l 1 rfl
 have hfr : ∀ p ∈ Lg, H8 p.1 = p.2 ∧ unx H N p.1 = true := fun p hp =>
  ⟨(kn.get p (List.mem_append_right _ (List.mem_append_left _ (List.mem_append_right _ hp)))).1, kn.unx (List.mem_append_right _ hp)⟩
 refine Qj ?_
 simp only [go_sem, Qz, Qac, Qln, List.mem_singleton, forall_eq, RS.op, hpw, how, hx2]
 exact ⟨unx H N, .ag (kRow y pc), H8.frz (unx H N), FrzL.ag (.cons (.same _ hpw) (.cons (Q5w (Qhg (Qfw _))) (.cons (Qi rfl) (.cons (Qi rfl) (.cons (Gr.frzM hgr hfr (FrzR.same (Qx _))) .nil))))), Qdq _ _, hK pc N _ hgp kn.finK⟩
structure KBlk where
 y : BlkD
 pc : C
 pl : List (Nat × Obj)
def KBlk.row (b : KBlk) : List C := kRow b.y b.pc
def KBlk.ok (b : KBlk) : Prop := Gr b.pl 2 (Q1 b.y.phis) b.pc
theorem KBlk.noOw {b : KBlk} (h : b.ok) : Go.AE.noOw b.row = true := by
 have := h.isOw
 simp only [Go.AE.noOw, KBlk.row, kRow, List.all_cons, List.all_nil, this]; rfl
theorem Qa7o {l : List BlkD} {fl : Bool} (hl : l.length ≤ 2 ^ 38) (ha : ∀ y ∈ l, y.cl) (kn : Kn H0 H E L)
  (hK : ∀ (ks : List KBlk) t Lg H', ks.map KBlk.y = l → (∀ b ∈ ks, b.ok) → Gr Lg 5 (ks.map KBlk.row) t → Kn H0 H' E ((L ++ ks.flatMap KBlk.pl) ++ Lg) → K (.c t) H') :
  Qp prog Qbv [.c (.sl fl 5 (Ql l)), .c (.fn Qb5 [])] H K := by
 refine Qb Qat Qks ?_
 refine Qa ?_
 simp only [go_sem]
 refine Qa ?_
 simp only [go_sem]
 refine Q4 ?_
 refine Qa ?_
 simp only [go_sem, Qn]
 intro _
 refine Qh (Qc (Qu (fun m e1 H1 => ∃ (ks : List KBlk) (t : C) (Lg : List (Nat × Obj)), m = l.length - ks.length ∧ ks.length ≤ l.length ∧ ks.map KBlk.y = l.take ks.length ∧ (∀ b ∈ ks, b.ok) ∧ Gr Lg 5 (ks.map KBlk.row) t ∧ Kn H0 H1 E ((L ++ ks.flatMap KBlk.pl) ++ Lg) ∧
  e1 = [(1, .c (.fn Qb5 [])), (5, .c t), (8, .c (.sl fl 5 (Ql l))), (9, .c (.int .i64 l.length)), (10, .c (.int .i64 ks.length))]) l.length ?_ ?_))
 ·exact ⟨[], _, [], by simp, by simp, by simp, by simp, .nil 5, by simpa using kn, rfl⟩
 ·clear kn
  rintro m e1 H1 ⟨ks, t, Lg, hm, hi, hky, hko, hgr, kn, rfl⟩
  have htw := hgr.isOw
  refine Qa ?_
  simp only [go_sem, htw]
  refine Qh (Qd rfl ?_ ?_)
  ·intro hc
   have hlt : ks.length < l.length := by simpa using hc
   obtain ⟨y, hy⟩ : ∃ y, l[ks.length] = y := ⟨_, rfl⟩
   have hym : y ∈ l := by rw [← hy]; exact List.getElem_mem hlt
   have htk : l.take (ks.length + 1) = l.take ks.length ++ [y] := by rw [List.take_succ_eq_append_getElem hlt, hy]
   refine Qf ?_
   try simp only [go_sem]
   refine Qh (Qc ?_)
   refine Qa ?_
   simp only [go_sem, htw, hlt, Qn, Q5 _ _ hlt, BlkD.cells, hy]
   intro x7 hx7 H2 h2
   have kn := kn.al hx7 h2
   have hx7 : H2 x7 = .st [.sl true 2 [], .sl true 4 [], .int .i64 0, .int .i64 0, .sl true 1 []] := (kn.get (x7, .st [.sl true 2 [], .sl true 4 [], .int .i64 0, .int .i64 0, .sl true 1 []]) (by simp)).1
   simp only [go_sem, Qcp, hx7, htw]
   intro H3 h3
   have kn : Kn H0 H3 E (((L ++ ks.flatMap KBlk.pl) ++ Lg) ++ [(x7, Q2p y)]) := by
    have := kn.stL ((L ++ ks.flatMap KBlk.pl) ++ Lg).length (x := x7) (o := .st [.sl true 2 [], .sl true 4 [], .int .i64 0, .int .i64 0, .sl true 1 []]) (by simp) h3
    simpa [Q2p] using this
   have hx7 : H3 x7 = .st [.sl false 2 (Q1 y.phis), .sl false 4 (Qaj y.ins), .int .i64 y.jump, .int .i64 y.on, .sl false 1 (Qe y.next)] := (kn.get (x7, Q2p y) (by simp)).1
   have kn := kn.drop
   refine Qq ?_
   simp only [go_sem, htw, hx7, List.append_nil, List.map_nil]
   refine Qamm (y := y) (ha y hym) fun pc N H4 hgp k2 => ?_
   have kn : Kn H0 H4 E ((L ++ (ks ++ [(⟨y, pc, N⟩ : KBlk)]).flatMap KBlk.pl) ++ Lg) := (kn.comp0 k2).perm (Qr fun f hf h0 hc hp => by
    simp only [hf, List.flatMap_append, List.flatMap_cons, List.flatMap_nil, List.append_nil]; omega)
   have hpw := hgp.isOw
   simp only [go_sem, Qcr, htw, kRow, hpw]
   refine kn.growR (new := [KBlk.row ⟨y, pc, N⟩]) hgr (.mk' _ _ _ _) (by intro r hr; simp only [List.mem_singleton] at hr; subst hr; exact KBlk.noOw hgp) (by simp only [List.length_map, LIM, List.length_cons, List.length_nil]; omega) fun t2 Lg2 H5 hgr2 ht2 kn => ?_
   simp only [go_sem, Qcq, ht2]
   refine Qq ?_
   simp only [go_sem, X.next, ht2]
   refine ⟨Qo (by omega) (by omega), l.length - (ks.length + 1), by omega, ks ++ [⟨y, pc, N⟩], t2, Lg2, by simp, by simp; omega, ?_, fun b hb => ?_, ?_, kn, ?_⟩
   ·rw [List.length_append, List.length_singleton, htk, List.map_append, hky]; rfl
   ·rcases List.mem_append.1 hb with hb | hb
    ·exact hko b hb
    ·simp only [List.mem_singleton] at hb; subst hb; exact hgp
   ·rw [List.map_append]; exact hgr2
   ·simp
  ·intro hc
   have hge : ks.length = l.length := by have : l.length ≤ ks.length := (by simpa using hc); omega
   rw [hge, List.take_length] at hky
   refine Qt ?_
   simp only [go_sem, X.next]
   refine Qa ?_
   simp only [go_sem, htw]
   refine Qj ?_
   simp only [go_sem, Qz, Qac, Qdv, List.mem_singleton, forall_eq, RS.op, htw]
   exact hK ks t Lg H1 hky hko hgr kn
theorem Qaq6 {q : CodeD} {fl : Bool} (hb : q.blocks.length ≤ 2 ^ 38) (ha : ∀ y ∈ q.blocks, y.cl)
  (hK : ∀ (ks : List KBlk) bc bl H', ks.map KBlk.y = q.blocks → (∀ b ∈ ks, b.ok) → Gr bl 5 (ks.map KBlk.row) bc → Kn H H' [] (ks.flatMap KBlk.pl ++ bl) → K (.ag [.int .i64 q.params, .int .i64 q.regs, bc]) H') :
  Qp prog Qf1 [.ag [.int .i64 q.params, .int .i64 q.regs, .sl fl 5 (Ql q.blocks)]] H K := by
 refine Qew ?_
 refine Qb Qat Q6a ?_
 refine Qa ?_
 simp only [go_sem]
 intro x1 hx1 H0 h0
 have kn := (Kn.start0 H).al hx1 h0
 intro x2 hx2 H1 h1
 have kn := kn.al hx2 h1
 have hx1 := kn.l 0 rfl
 refine Qa ?_
 simp only [go_sem, hx1]
 refine Qa7o hb ha kn fun ks bc bl H2 hky hko hgr kn => ?_
 have hbw := hgr.isOw
 have hx1 := kn.l 0 rfl
 simp only [go_sem, Qhv, hbw, hx1]
 intro H3 h3
 have kn := kn.stL 0 rfl h3
 have hx1 := kn.l 0 rfl
 have hx2 := kn.l 1 rfl
 refine Qa ?_
 simp only [go_sem, hx1, hx2, hbw]
 intro H4 h4
 have kn : Kn H H4 [] ([(x1, .st [.int .i64 q.params, .int .i64 q.regs, bc]), (x2, .st [.int .i64 q.params, .int .i64 q.regs, bc])] ++ (ks.flatMap KBlk.pl ++ bl)) := by
  have := kn.stL 1 rfl h4
  refine this.perm ?_
  simp only [List.set, List.cons_append, List.nil_append, List.append_assoc]
  exact .refl _
 have hx2 := kn.l 1 rfl
 refine Qj ?_
 simp only [go_sem, Qz, Qac, Qos, List.mem_singleton, forall_eq, RS.op, hbw, hx2]
 exact ⟨unx H (ks.flatMap KBlk.pl ++ bl), .ag [.int .i64 q.params, .int .i64 q.regs, bc], H4.frz (unx H (ks.flatMap KBlk.pl ++ bl)), FrzL.ag (.cons (Qi rfl) (.cons (Qi rfl) (.cons (.same _ hbw) .nil))), Qdq _ _, hK ks bc bl _ hky hko hgr kn.finK⟩
end Go.AE.Y

namespace Go.AE.Y
attribute [local go_sem] cond_true cond_false Bool.not_true Bool.not_false
open Go.Proofs.Tryz
variable {H H0 F : Heap} {K : V → Heap → Prop} {E L B pl : List (Nat × Obj)}
theorem Qvw {x : PhiD} {x7 M ver : Nat} {ks : List Nat} {R : Nat} (h7 : H x7 = .st [.mp M]) (hM : H M = .map ver (Qai ks)) (hx : 0 ≤ x.to) (hK : K (.c (.bool (!decide (x.to.toNat ∈ ks)))) H) :
  Qp prog Qay [.ag x.cells, .c (.ptr x7 0)] H K := by
 have hokM : Quw H (.mp M) = True := by simp only [Quw, hM]
 have henM : Qao H (.mp M) = Qai ks := by simp only [Qao, hM]
 have hv : x.to = (x.to.toNat : Int) := by omega
 refine Qb Qat Q2r ?_
 refine Qa ?_
 simp only [go_sem, PhiD.cells]
 generalize hr : x.to.toNat = r at *
 refine Qa ?_
 simp only [go_sem, h7, hokM, henM, hv, Qcf, Q5f]
 refine Qj ?_
 simp only [go_sem, Qz, Qac, Qlo, List.mem_singleton, forall_eq, RS.op]
 exact hK
theorem Qayl {c : C} {l : List PhiD} {x7 M ver : Nat} {ks : List Nat} (hs : Slc H 2 (Q1 l) c) (how : c.isOw = false) (h7 : H x7 = .st [.mp M]) (hM : H M = .map ver (Qai ks)) (hto : ∀ x ∈ l, 0 ≤ x.to)
  (hK : ∀ r : Int, (r = -1 ∨ ∃ i : Nat, r = i ∧ i < l.length) → K (.c (.int .i64 r)) H) : Qp prog Qc5 [.c c, .c (.fn Qay [.ptr x7 0])] H K := by
 refine Qb Qat Qv9 ?_
 have hok := eq_true hs.ok
 have hlen := hs.len
 have hsz := hs.sz
 have hrw := hs.rows
 refine Qa ?_
 simp only [go_sem, how]
 refine Q4 ?_
 refine Qa ?_
 simp only [go_sem, how, hok, hlen, Qy]
 intro hl
 simp only [LIM] at hl
 refine Qh (Qc (Qu (fun m e1 H1 => ∃ (i : Nat), m = l.length - i ∧ i ≤ l.length ∧ H1 = H ∧ e1 = [(0, .c c), (1, .c (.fn Qay [.ptr x7 0])), (7, .c (.int .i64 l.length)), (8, .c (.int .i64 i))]) l.length ?_ ?_))
 ·exact ⟨0, by omega, by omega, rfl, rfl⟩
 ·rintro m e1 H1 ⟨i, hm, hi, rfl, rfl⟩
  refine Qa ?_
  simp only [go_sem, how]
  refine Qh (Qd rfl ?_ ?_)
  ·intro hc
   have hlt : i < l.length := by simpa using hc
   refine Qf ?_
   try simp only [go_sem]
   refine Qh (Qc ?_)
   refine Qa ?_
   simp only [go_sem, how]
   refine Qa ?_
   simp only [go_sem, how, hok, hlen, hsz, hrw, hlt, Qy, Qa2 _ _ hlt, PhiD.take2, PhiD.allOw, PhiD.len2, List.cons_append, List.nil_append, List.map_cons, List.map_nil]
   refine Qvw (R := 0) h7 hM (hto _ (List.getElem_mem hlt)) ?_
   refine Qd rfl ?_ ?_
   ·intro hc2
    refine Qa ?_
    simp only [go_sem]
    refine Qj ?_
    simp only [go_sem, X.next, Qz, Qac, Qdx, List.mem_singleton, forall_eq, RS.op]
    exact hK _ (.inr ⟨i, rfl, hlt⟩)
   ·intro hc2
    refine Qf ?_
    try simp only [go_sem]
    refine Qq ?_
    simp only [go_sem, X.next]
    exact ⟨Qo (by omega) (by omega), l.length - (i + 1), by omega, i + 1, rfl, by omega, by trivial⟩
  ·intro hc
   refine Qt ?_
   simp only [go_sem, X.next]
   refine Qa ?_
   simp only [go_sem]
   refine Qj ?_
   simp only [go_sem, Qz, Qac, Qdx, List.mem_singleton, forall_eq, RS.op]
   exact hK _ (.inl rfl)
theorem Qazl (l : List PhiD) (i : Nat) (x : PhiD) : (Q1 l).set i x.cells = Q1 (l.set i x) := by simp [Q1, List.map_set]
set_option maxHeartbeats 2000000 in
theorem Qaq0 {pc : C} {l : List PhiD} {x7 M ver : Nat} {ks : List Nat} (kn : Kn H0 H E (B ++ pl)) (hgr : Gr pl 2 (Q1 l) pc) (hL : l.length ≤ 2 ^ 38) (h7 : (x7, Obj.st [.mp M]) ∈ B) (hM : (M, Obj.map ver (Qai ks)) ∈ B) (hto : ∀ x ∈ l, 0 ≤ x.to)
  (hK : ∀ pc' pl' l' H', Gw pl' 2 (Q1 l') pc' → (∀ x ∈ l', x ∈ l) → l'.length ≤ l.length → Kn H0 H' E (B ++ pl') → K (.c pc') H') :
  Qp prog Qcu [.c pc, .c (.fn Qay [.ptr x7 0])] H K := by
 have how := hgr.isOw
 have hget := hgr.get kn
 have hs : Slc H 2 (Q1 l) pc := ⟨hget.1, hgr.elemSz, hget.2, hgr.lenC⟩
 have g7 : ∀ {H1 : Heap} {N : List (Nat × Obj)}, Kn H0 H1 E (B ++ N) → H1 x7 = .st [.mp M] ∧ H1 M = .map ver (Qai ks) := fun kn =>
  ⟨(kn.get _ (List.mem_append_right _ (List.mem_append_left _ h7))).1, (kn.get _ (List.mem_append_right _ (List.mem_append_left _ hM))).1⟩
 refine Qb Qat Qut ?_
 refine Qa ?_
 simp only [go_sem, how]
 refine Qa ?_
 simp only [go_sem, how]
 refine Qayl hs how (g7 kn).1 (g7 kn).2 hto fun r hr => ?_
 simp only [go_sem, Qd7, how]
 refine Q4 ?_
 refine Qa ?_
 simp only [go_sem, how]
 rcases hr with rfl | ⟨i0, rfl, hi0⟩
 ·refine Qh (Qd rfl (fun _ => ?_) (fun h => by simp at h))
  refine Qa ?_
  simp only [go_sem, how]
  refine Qj ?_
  simp only [go_sem, Qz, Qac, Qc6, List.mem_singleton, forall_eq, RS.op, how]
  exact hK pc pl l H hgr.gw (fun x hx => hx) (Nat.le_refl _) kn
 ·have hne : decide ((i0 : Int) = -1) = false := decide_eq_false (by omega)
  refine Qh (Qd rfl (fun h => ?_) (fun _ => ?_))
  ·have := of_decide_eq_true h; omega
  obtain ⟨z, rfl, rfl⟩ : ∃ z, pc = .vsl z 2 0 l.length ∧ pl = [(z, .vec 2 (Q1 l))] := by
   rcases hgr with ⟨_, h, _⟩ | ⟨y, h1, h2⟩
   ·have := congrArg List.length h; rw [Qy] at this; simp only [List.length_nil] at this; omega
   ·exact ⟨y, by rw [h1, Qy], h2⟩
  refine Qf ?_
  try simp only [go_sem]
  refine Q4 ?_
  refine Qa ?_
  simp only [go_sem]
  refine ⟨Qo (by omega) (by omega), ?_⟩
  refine Qh (Qc (Qu (fun m e1 H1 => ∃ (i j : Nat) (R : List PhiD), m = l.length - j ∧ i < j ∧ j ≤ l.length ∧ R.length = l.length ∧ (∀ x ∈ R, x ∈ l) ∧ Kn H0 H1 E (B ++ [(z, .vec 2 (Q1 R))]) ∧
   lk 0 e1 = .c (.vsl z 2 0 l.length) ∧ lk 1 e1 = .c (.fn Qay [.ptr x7 0]) ∧ lk 5 e1 = .c (.int .i64 i) ∧ lk 6 e1 = .c (.int .i64 j)) (l.length - (i0 + 1)) ?_ ?_))
  ·exact ⟨i0, i0 + 1, l, by omega, by omega, by omega, rfl, fun x hx => hx, kn, rfl, rfl, rfl, rfl⟩
  ·clear kn hs hget hgr how
   rintro m e1 H1 ⟨i, j, R, hm, hij, hj, hRl, hRm, kn, l0, l1, l5, l6⟩
   have hz : H1 z = .vec 2 (Q1 R) := (kn.get (z, .vec 2 (Q1 R)) (by simp)).1
   have htk : (Q1 R).take l.length = Q1 R := List.take_of_length_le (by rw [Qy]; omega)
   refine Q4 ?_
   refine Qa ?_
   simp only [go_sem, l0, l1, l5, l6, hz, Qy, hRl, Nat.zero_add, Nat.le_refl]
   intro _
   refine Qh (Qd rfl ?_ ?_)
   ·intro hc
    have hjl : j < l.length := by simpa using hc
    have hjR : j < R.length := by omega
    have hiR : i < R.length := by omega
    have hil : i < l.length := by omega
    obtain ⟨x, hx⟩ : ∃ x, R[j] = x := ⟨_, rfl⟩
    have hxm : x ∈ R := by rw [← hx]; exact List.getElem_mem hjR
    refine Qf ?_
    try simp only [go_sem]
    refine Qdm (fun e2 H2 => ∃ (i2 : Nat) (R2 : List PhiD), i2 < j + 1 ∧ R2.length = l.length ∧ (∀ x ∈ R2, x ∈ l) ∧ Kn H0 H2 E (B ++ [(z, .vec 2 (Q1 R2))]) ∧ lk 0 e2 = .c (.vsl z 2 0 l.length) ∧ lk 1 e2 = .c (.fn Qay [.ptr x7 0]) ∧ lk 5 e2 = .c (.int .i64 i2) ∧ lk 6 e2 = .c (.int .i64 j)) ?_ ?_
    ·intro Q hnr _ _
     refine Qc ?_
     refine Qa ?_
     simp only [go_sem, hz, htk, hjl, Qy, hRl, Qa2 _ _ hjR, hx, PhiD.cells, Nat.zero_add, Nat.le_refl]
     intro y7 hy7 H2 h2
     have kn := kn.al hy7 h2
     have hy7 : H2 y7 = .st [.int .i64 0, .sl true 1 []] := (kn.get (y7, .st [.int .i64 0, .sl true 1 []]) (by simp)).1
     simp only [go_sem, Qd8, hy7]
     intro H3 h3
     have kn : Kn H0 H3 E ((B ++ [(z, .vec 2 (Q1 R))]) ++ [(y7, .st [.int .i64 x.to, .sl false 1 (Qe x.args)])]) := by
      have := kn.stL (B ++ [(z, Obj.vec 2 (Q1 R))]).length (x := y7) (o := .st [.int .i64 0, .sl true 1 []]) (by simp) h3
      simpa using this
     have hy7 : H3 y7 = .st [.int .i64 x.to, .sl false 1 (Qe x.args)] := (kn.get (y7, .st [.int .i64 x.to, .sl false 1 (Qe x.args)]) (by simp)).1
     have kn := kn.drop
     have hz3 : H3 z = .vec 2 (Q1 R) := (kn.get (z, .vec 2 (Q1 R)) (by simp)).1
     refine Qa ?_
     simp only [go_sem, hy7, List.cons_append, List.nil_append, List.map_cons, List.map_nil]
     refine Qvw (x := x) (R := 0) (g7 kn).1 (g7 kn).2 (hto x (hRm x hxm)) ?_
     simp only [go_sem, Qd9]
     refine Qd rfl ?_ ?_
     ·intro hc2
      refine Qa ?_
      simp only [go_sem, hy7, hz3, htk, hil, Qy, hRl, Qa2 _ _ hiR, PhiD.cells, Nat.zero_add, Nat.le_refl]
      intro H4 h4
      have hrow : (Q1 R).set i [.int .i64 x.to, .sl false 1 (Qe x.args)] = Q1 (R.set i x) := Qazl R i x
      rw [hrow] at h4
      have kn : Kn H0 H4 E (B ++ [(z, .vec 2 (Q1 (R.set i x)))]) := by
       have := kn.stL B.length (x := z) (o := .vec 2 (Q1 R)) (by simp) h4
       simpa using this
      refine Qq ?_
      simp only [go_sem]
      refine ⟨Qo (by omega) (by omega), ?_⟩
      refine hnr _ _ ⟨i + 1, R.set i x, by omega, by rw [List.length_set]; exact hRl, fun w hw => ?_, kn, rfl, rfl, rfl, rfl⟩
      rcases List.mem_or_eq_of_mem_set hw with h | rfl
      ·exact hRm w h
      ·exact hRm w hxm
     ·intro hc2
      refine Qf ?_
      try simp only [go_sem]
      exact hnr _ _ ⟨i, R, by omega, hRl, hRm, kn, rfl, rfl, rfl, rfl⟩
    ·rintro e2 H2 ⟨i2, R2, hi2, hRl2, hRm2, kn, l0, l1, l5, l6⟩
     refine Qq ?_
     simp only [go_sem, l0, l1, l5, l6]
     refine ⟨Qo (by omega) (by omega), ?_⟩
     show ∃ m, _
     exact ⟨l.length - (j + 1), by omega, i2, j + 1, R2, rfl, hi2, by omega, hRl2, hRm2, kn, rfl, rfl, rfl, rfl⟩
   ·intro hc
    have hje : j = l.length := by have : l.length ≤ j := (by simpa using hc); omega
    refine Qt ?_
    try simp only [go_sem, X.next]
    refine Qa ?_
    have e5 : i + (l.length - i) = l.length := by omega
    simp only [go_sem, l0, l1, l5, l6, hz, e5, Qy, hRl, Nat.zero_add, Nat.le_refl]
    refine ⟨by omega, fun H3 h3 => ?_⟩
    have kn3 := kn.stL B.length (x := z) (o := .vec 2 (Q1 R)) (by simp) h3
    have htk2 : ((Q1 R).take i ++ List.replicate (l.length - i) [C.int .i64 0, C.sl true 1 []] ++ (Q1 R).drop l.length).take i = Q1 (R.take i) := by
     rw [List.append_assoc, List.take_append_of_le_length (by rw [List.length_take, Qy]; omega), List.take_take, Nat.min_self]
     simp [Q1, List.map_take]
    have hl2 : l.length ≤ ((Q1 R).take i ++ List.replicate (l.length - i) [C.int .i64 0, C.sl true 1 []] ++ (Q1 R).drop l.length).length := by
     simp only [List.length_append, List.length_take, List.length_replicate, List.length_drop, Qy]; omega
    generalize (Q1 R).take i ++ List.replicate (l.length - i) [C.int .i64 0, C.sl true 1 []] ++ (Q1 R).drop l.length = R2 at *
    have kn : Kn H0 H3 E (B ++ [(z, .vec 2 R2)]) := by simpa using kn3
    have hz3 : H3 z = .vec 2 R2 := (kn.get (z, .vec 2 R2) (by simp)).1
    refine Qa ?_
    simp only [go_sem, hz3, hl2, Nat.zero_add, Nat.sub_zero]
    refine ⟨by omega, ?_⟩
    refine Qj ?_
    simp only [go_sem, Qz, Qac, Qc6, List.mem_singleton, forall_eq, RS.op]
    have hrl : (Q1 (R.take i)).length = i := by rw [Qy, List.length_take]; omega
    refine hK (.vsl z 2 0 i) _ (R.take i) H3 (.inr ⟨z, R2, by rw [hrl], rfl, by rw [hrl]; exact htk2⟩) (fun x hx => hRm x (List.mem_of_mem_take hx)) (by rw [List.length_take]; omega) kn
end Go.AE.Y

namespace Go.AE
variable {H0 H H' : Heap} {E L B Lg : List (Nat × Obj)}
theorem Kn.freezeL {gl : Nat} {og og' : Obj} (kn : Kn H0 H E (B ++ Lg)) (i : Nat) (hB : B[i]? = some (gl, og)) (hO : FrzO H (fun m => (Lg.map Prod.fst).contains m) og og') (hn : og' ≠ .none) :
  FrzH H (fun m => (Lg.map Prod.fst).contains m) ((H.frz fun m => (Lg.map Prod.fst).contains m).set gl og') ∧ Kn H0 ((H.frz fun m => (Lg.map Prod.fst).contains m).set gl og') E (B.set i (gl, og')) := by
 have hd := kn.dL
 rw [List.map_append] at hd
 obtain ⟨d1, d2, d3⟩ := List.nodup_append.1 hd
 have keyB : ∀ m, m ∉ Lg.map Prod.fst → (Lg.map Prod.fst).contains m = false := fun m hm => by
  cases hc : (Lg.map Prod.fst).contains m with
  | false => rfl
  | true => exact absurd (List.contains_iff_mem.1 hc) hm
 have key : ∀ m, m ∉ Lg.map Prod.fst → (H.frz fun m => (Lg.map Prod.fst).contains m) m = H m := fun m hm => by
  simp only [Heap.frz, keyB m hm]; rfl
 have hgl : gl ∉ Lg.map Prod.fst := fun hh => d3 _ (Qbc (List.mem_of_getElem? hB)) _ hh rfl
 have hH : H gl = og := (kn.get (gl, og) (List.mem_append_right _ (List.mem_append_left _ (List.mem_of_getElem? hB)))).1
 refine ⟨(Qdq _ _).set (keyB gl hgl) (by rw [hH]; exact hO), ?_⟩
 have kn1 : Kn H0 (H.frz fun m => (Lg.map Prod.fst).contains m) E B := by
  refine ⟨fun p hp => ?_, kn.ext, fun p hp => kn.loc p (List.mem_append_left _ hp), kn.dE, d1, fun m hm hx => ?_⟩
  ·have hg : H p.1 = p.2 ∧ p.2 ≠ .none := kn.get p (by
    rcases List.mem_append.1 hp with h | h
    ·exact List.mem_append_left _ h
    ·exact List.mem_append_right _ (List.mem_append_left _ h))
   refine ⟨?_, hg.2⟩
   rw [key p.1 (fun hh => ?_)]; exact hg.1
   rcases List.mem_append.1 hp with h | h
   ·obtain ⟨r, hr, he⟩ := List.mem_map.1 hh
    exact kn.ext p h (he ▸ kn.loc r (List.mem_append_right _ hr))
   ·exact d3 _ (Qbc h) _ hh rfl
  ·rw [key m (fun hh => ?_)]
   ·exact kn.chg m hm hx
   ·obtain ⟨r, hr, he⟩ := List.mem_map.1 hh
    exact hm (he ▸ kn.loc r (List.mem_append_right _ hr))
 exact kn1.setL i hB hn
end Go.AE
namespace Go.AE.Y
attribute [local go_sem] cond_true cond_false Bool.not_true Bool.not_false
open Go.Proofs.Tryz
variable {H H0 F : Heap} {K : V → Heap → Prop} {E L B : List (Nat × Obj)} {q : CodeD}
structure DBlk where
 y : BlkD
 pc : C
 pl : List (Nat × Obj)
 ic : C
 il : List (Nat × Obj)
def DBlk.row (d : DBlk) : List C := [d.pc, d.ic, .int .i64 d.y.jump, .int .i64 d.y.on, .sl false 1 (Qe d.y.next)]
def DBlk.lg (d : DBlk) : List (Nat × Obj) := d.pl ++ d.il
structure DBlk.ok (d : DBlk) : Prop where
 p : Gw d.pl 2 (Q1 d.y.phis) d.pc
 i : Gr d.il 4 (Qaj d.y.ins) d.ic
theorem Gw.frzM {Lg : List (Nat × Obj)} {S : Nat → Bool} {sz : Nat} {rows : List (List C)} {c : C} (h : Gw Lg sz rows c) (hm : ∀ p ∈ Lg, H p.1 = p.2 ∧ S p.1 = true) (hr : ∀ r ∈ rows, noOw r = true) : FrzC H S c (.sl false sz rows) := by
 rcases h with ⟨rfl, rfl, _⟩ | ⟨y, R, rfl, rfl, hR⟩
 ·exact FrzR.nil.sl
 ·have hle : rows.length ≤ R.length := by
   have := congrArg List.length hR
   rw [List.length_take] at this
   omega
  obtain ⟨h1, h2⟩ := hm (y, .vec sz R) (by simp)
  have h := FrzR.same (H := H) (S := S) hr
  exact .vsl y sz 0 _ R rows rows h2 h1 (by omega) (by simpa using hR.symm) h.spec.1 (fun i r r' h1 h2 => (h.spec.2 i r r' h1 h2).spec.1) fun i r r' j c c' h1 h2 h3 h4 => (h.spec.2 i r r' h1 h2).spec.2 j c c' h3 h4
theorem DBlk.frzR {S : Nat → Bool} : ∀ {ds : List DBlk}, (∀ d ∈ ds, d.ok) → (∀ d ∈ ds, ∀ p ∈ d.lg, H p.1 = p.2 ∧ S p.1 = true) → FrzR H S (ds.map DBlk.row) (Ql (ds.map DBlk.y))
 | [], _, _ => .nil
 | d :: ds, h, hm => .cons (.cons ((h d List.mem_cons_self).p.frzM (fun p hp => hm d List.mem_cons_self p (List.mem_append_left _ hp)) (Q6d _))
   (.cons (Gr.frzM (h d List.mem_cons_self).i (fun p hp => hm d List.mem_cons_self p (List.mem_append_right _ hp)) (FrzR.same (Qfw _)))
   (.cons (Qi rfl) (.cons (Qi rfl) (.cons (Q5w (Qhg (Qx _))) .nil)))))
   (DBlk.frzR (fun d hd => h d (List.mem_cons_of_mem _ hd)) fun d hd => hm d (List.mem_cons_of_mem _ hd))
structure Drp (q : CodeD) (b : Nat) (y y' : BlkD) : Prop where
 j : y'.jump = y.jump
 o : y'.on = y.on
 n : y'.next = y.next
 i : ∀ x ∈ y'.ins, x ∈ y.ins
 p : ∀ x ∈ y'.phis, x ∈ y.phis
 pl : y'.phis.length ≤ y.phis.length
 c : y'.ins.length + (Q4z q b y.ins.length).length ≤ y.ins.length
theorem CodeD.ok.fts (h : q.ok) : q.fits := fun y hy => by
 obtain ⟨b, hb, rfl⟩ := List.mem_iff_getElem.1 hy
 have := h.il b hb
 omega
theorem CodeD.ok.cl (h : q.ok) : ∀ y ∈ q.blocks, y.cl := fun y hy => by
 obtain ⟨b, hb, rfl⟩ := List.mem_iff_getElem.1 hy
 have h1 := h.il b hb
 have h2 := h.bs b hb
 have h3 := h2.nxl
 have h4 := h.b1
 refine ⟨by omega, by omega, by simp only [LIM]; omega, fun x hx => ?_, fun x hx => ?_⟩
 ·have := h2.al x hx; simp only [LIM]; omega
 ·have := h2.pal x hx
  have h5 := Qkv (gnx q) (b : Int) q.blocks.length
  simp only [LIM]; omega
theorem Qbbv {d : CodeD} (ho : q.ok) (hr : d.regs = q.regs) (hl : d.blocks.length = q.blocks.length) (h : ∀ b (h1 : b < q.blocks.length) (h2 : b < d.blocks.length), Drp q b q.blocks[b] d.blocks[b]) :
  d.ok ∧ Qe3 d + idlN q q.blocks.length ≤ Qe3 q := by
 have hmap : d.blocks.map BlkD.next = q.blocks.map BlkD.next := List.ext_getElem (by simp [hl]) fun b h1 h2 => by
  simp only [List.length_map] at h1 h2
  simp only [List.getElem_map]
  exact (h b h2 h1).n
 have hg : gnx d = gnx q := by funext i; rw [gnx, gnx, hmap]
 refine ⟨⟨by rw [hr]; exact ho.r0, by rw [hr]; exact ho.r1, by rw [hl]; exact ho.b0, by rw [hl]; exact ho.b1, fun b hb => ?_, fun b hb => ?_⟩, ?_⟩
 ·have hb' : b < q.blocks.length := by omega
  have g := h b hb' hb
  have o := ho.bs b hb'
  have rr : ∀ v, rIn q v → rIn d v := fun v hv => by simp only [rIn, hr] at hv ⊢; exact hv
  refine ⟨by rw [g.n]; exact o.nxl, fun v hv => ?_, by rw [g.j]; exact o.jmp, fun hj => ?_, fun x hx v hv => rr _ (o.args x (g.i x hx) v hv), fun x hx hm => rr _ (o.to x (g.i x hx) hm),
   fun x hx => rr _ (o.pto x (g.p x hx)), fun x hx v hv => rr _ (o.pargs x (g.p x hx) v hv), fun x hx => ?_, fun x hx => o.al x (g.i x hx)⟩
  ·rw [g.n] at hv; rw [hl]; exact o.nx v hv
  ·rw [g.j] at hj; rw [g.o]; exact rr _ (o.on hj)
  ·rw [hg, hl]; exact o.pal x (g.p x hx)
 ·have hb' : b < q.blocks.length := by omega
  have g := h b hb' hb
  have o := ho.il b hb'
  have := g.c
  have := g.pl
  omega
 ·have key : ∀ m, m ≤ q.blocks.length → Qfr Quj (d.blocks.take m) + idlN q m ≤ Qfr Quj (q.blocks.take m) := fun m => by
   induction m with
   | zero => intro _; simp [idlN, Qfr]
   | succ m ih =>
    intro hm
    have h1 := ih (by omega)
    have hq : m < q.blocks.length := by omega
    have hd : m < d.blocks.length := by omega
    have g := h m hq hd
    have g1 := g.c
    have g2 := g.pl
    rw [Qbh hq, Qbh hd]
    have h3 : idlN q (m + 1) = idlN q m + (Q4z q m (Qi2 q m)).length := by simp [idlN, List.range_succ]
    rw [h3, Qgb hq, Quj, Quj]
    omega
  have := key _ (Nat.le_refl _)
  rw [List.take_length, ← hl, List.take_length] at this
  rw [Qe3, Qe3, ← hl]; exact this
theorem Qbcm {ds ks : List (List C)} {r : List C} {n : Nat} (hn : n = ds.length) : (ds ++ r :: ks).getD n [] = r := by subst hn; simp
theorem Qba2 {ds ks : List (List C)} {r r' : List C} {n : Nat} (hn : n = ds.length) : (ds ++ r :: ks).set n r' = ds ++ r' :: ks := by subst hn; simp
set_option maxHeartbeats 8000000 in
theorem Qayw {q0 : CodeD} {fl0 : Bool} (ho : q0.ok)
  (hK : ∀ (d : CodeD) H', d.ok → d.params = q0.params → d.regs = q0.regs → Qe3 d + idlN q0 q0.blocks.length ≤ Qe3 q0 → Upd H H' [] → K (.ag d.cells) H') :
  Qp prog Qb6 [.ag [.int .i64 q0.params, .int .i64 q0.regs, .sl fl0 5 (Ql q0.blocks)]] H K := by
 refine Q0 ?_
 refine Qb Qat Qadb ?_
 refine Qa ?_
 simp only [go_sem]
 intro x1 hx1 H1 h1
 have kn := (Kn.start0 H).al hx1 h1
 intro x2 hx2 H2 h2
 have kn := kn.al hx2 h2
 refine Qc (Qu (fun m e1 H1 => ∃ (q : CodeD) (fl : Bool), m = Qe3 q ∧ q.ok ∧ q.params = q0.params ∧ q.regs = q0.regs ∧ (q = q0 ∨ Qe3 q + idlN q0 q0.blocks.length ≤ Qe3 q0) ∧
  Kn H H1 [] [(x1, .st [.int .i64 q.params, .int .i64 q.regs, .sl fl 5 (Ql q.blocks)]), (x2, .st [.int .i64 0, .int .i64 0, .sl true 5 []])] ∧
  lk 1 e1 = .c (.ptr x1 0) ∧ lk 2 e1 = .c (.ptr x2 0)) (Qe3 q0) ?_ ?_)
 ·exact ⟨q0, fl0, rfl, ho, rfl, rfl, .inl rfl, kn, rfl, rfl⟩
 rintro m e1 H1 ⟨q, fl, hm, hqo, hpar, hreg, hcnt, kn, l1, l2⟩
 have hb0 := hqo.b0
 have hb1 := hqo.b1
 have hx1 := kn.l 0 rfl
 refine Qc ?_
 refine Qan ?_
 simp only [go_sem, l1, l2, hx1]
 refine Qajc hqo kn fun l yi yp ss pr H2 him hlv kn => ?_
 have hx1 : H2 x1 = .st [.int .i64 q.params, .int .i64 q.regs, .sl fl 5 (Ql q.blocks)] := (kn.get (x1, .st [.int .i64 q.params, .int .i64 q.regs, .sl fl 5 (Ql q.blocks)]) (by simp)).1
 simp only [go_sem, Qjp, l1, l2, hx1]
 refine Qaq6 (q := q) (by omega) hqo.cl fun ks bc bl H3 hky hko hgr k2 => ?_
 have kn := kn.comp0 k2
 have hbw := hgr.isOw
 have hx1 : H3 x1 = .st [.int .i64 q.params, .int .i64 q.regs, .sl fl 5 (Ql q.blocks)] := (kn.get (x1, .st [.int .i64 q.params, .int .i64 q.regs, .sl fl 5 (Ql q.blocks)]) (by simp)).1
 have hkl : ks.length = q.blocks.length := by rw [← hky, List.length_map]
 obtain ⟨zb, rfl, rfl⟩ : ∃ z, bc = .vsl z 5 0 q.blocks.length ∧ bl = [(z, .vec 5 (ks.map KBlk.row))] := by
  rcases hgr with ⟨_, h, _⟩ | ⟨y, h1, h2⟩
  ·have := congrArg List.length h; simp only [List.length_map, List.length_nil] at this; omega
  ·exact ⟨y, by rw [h1, List.length_map, hkl], h2⟩
 simp only [go_sem, Qjo, l1, l2, hx1]
 intro x4 hx4 H4 h4
 have kn := kn.al hx4 h4
 have hx1 : H4 x1 = .st [.int .i64 q.params, .int .i64 q.regs, .sl fl 5 (Ql q.blocks)] := (kn.get (x1, .st [.int .i64 q.params, .int .i64 q.regs, .sl fl 5 (Ql q.blocks)]) (by simp)).1
 have hx4 : H4 x4 = .st [.int .i64 0, .int .i64 0, .sl true 5 []] := (kn.get (x4, .st [.int .i64 0, .int .i64 0, .sl true 5 []]) (by simp)).1
 simp only [go_sem, Qjn, l1, l2, hx1, hx4]
 intro H5 h5
 have kn : Kn H H5 [] (imE q fl l yi yp ss pr ++ ([(x1, .st [.int .i64 q.params, .int .i64 q.regs, .sl fl 5 (Ql q.blocks)])] ++ ([(x2, .st [.int .i64 0, .int .i64 0, .sl true 5 []])] ++ ([(x4, .st [.int .i64 q.params, .int .i64 q.regs, .vsl zb 5 0 q.blocks.length])] ++
   ([(zb, .vec 5 (ks.map KBlk.row))] ++ ks.flatMap KBlk.pl))))) := by
  have k3 := (kn.perm (List.perm_append_comm)).stL 0 rfl h5
  exact k3.perm (Qr fun f hf h0 hc hp => by
   have e : ∀ (a b : Nat × Obj), f [a, b] = f [a] + f [b] := fun a b => hc a [b]
   show f ([(x4, _)] ++ _) = _
   simp only [hf, e]; omega)
 clear hx4 h5 hx1 hgr
 refine Q4 ?_
 refine Qa ?_
 have hx4 : H5 x4 = .st [.int .i64 q.params, .int .i64 q.regs, .vsl zb 5 0 q.blocks.length] := (kn.get (x4, .st [.int .i64 q.params, .int .i64 q.regs, .vsl zb 5 0 q.blocks.length]) (by simp)).1
 have hzb : H5 zb = .vec 5 (ks.map KBlk.row) := (kn.get (zb, .vec 5 (ks.map KBlk.row)) (by simp)).1
 simp only [go_sem, hx4, hzb, List.length_map, hkl, Nat.zero_add, Nat.le_refl]
 try intro _
 refine Qh (Qc (Qu (fun m2 e1 H1 => ∃ (ds : List DBlk) (ks : List KBlk), m2 = ks.length ∧ ds.length + ks.length = q.blocks.length ∧ ks.map KBlk.y = q.blocks.drop ds.length ∧ (∀ d ∈ ds, d.ok) ∧ (∀ b ∈ ks, b.ok) ∧
  (∀ i (h1 : i < q.blocks.length) (h2 : i < ds.length), Drp q i q.blocks[i] ds[i].y) ∧
  Kn H H1 [] (imE q fl l yi yp ss pr ++ ([(x1, .st [.int .i64 q.params, .int .i64 q.regs, .sl fl 5 (Ql q.blocks)])] ++ ([(x2, .st [.int .i64 0, .int .i64 0, .sl true 5 []])] ++ ([(x4, .st [.int .i64 q.params, .int .i64 q.regs, .vsl zb 5 0 q.blocks.length])] ++
   ([(zb, .vec 5 (ds.map DBlk.row ++ ks.map KBlk.row))] ++ (ds.flatMap DBlk.lg ++ ks.flatMap KBlk.pl)))))) ∧
  lk 1 e1 = .c (.ptr x1 0) ∧ lk 2 e1 = .c (.ptr x2 0) ∧ lk 3 e1 = .c (.ptr l 0) ∧ lk 4 e1 = .c (.ptr x4 0) ∧ lk 17 e1 = .c (.int .i64 q.blocks.length) ∧ lk 18 e1 = .c (.int .i64 ds.length)) q.blocks.length ?_ ?_))
 ·exact ⟨[], ks, by omega, by simpa using hkl, by simpa using hky, by simp, hko, by simp, kn, rfl, rfl, rfl, rfl, rfl, rfl⟩
 ·clear hx4 hzb hko hky hkl l1 l2
  rintro m2 e2 H6 ⟨ds, ks, hm2, hlen, hky, hdo, hko, hdr, kn, l1, l2, l3, l4, l17, l18⟩
  refine Qa ?_
  simp only [go_sem, l1, l2, l3, l4, l17, l18]
  refine Qh (Qd rfl ?_ ?_)
  ·intro hc
   have hlt : ds.length < q.blocks.length := by simpa using hc
   obtain ⟨k, ks', rfl⟩ : ∃ k ks', ks = k :: ks' := by
    cases ks with
    | nil => simp at hlen; omega
    | cons k ks' => exact ⟨k, ks', rfl⟩
   simp only [List.length_cons] at hlen hm2
   have hdrop : q.blocks.drop ds.length = q.blocks[ds.length] :: q.blocks.drop (ds.length + 1) := List.drop_eq_getElem_cons hlt
   rw [hdrop, List.map_cons] at hky
   obtain ⟨hy, hky'⟩ := List.cons.inj hky
   have hkok := hko k List.mem_cons_self
   have hil := hqo.il ds.length hlt
   have hyo := hqo.bs ds.length hlt
   have hpw := KBlk.noOw hkok
   have hpw2 := hkok.isOw
   obtain ⟨y, hy2⟩ : ∃ y, k.y = y := ⟨_, rfl⟩
   rw [hy2] at hy
   rw [← hy] at hil hyo
   refine Qf ?_
   try simp only [go_sem]
   refine Qdm (fun e2 H2 => ∃ (d : DBlk), d.ok ∧ Drp q ds.length y d.y ∧ Kn H H2 [] (imE q fl l yi yp ss pr ++ ([(x1, .st [.int .i64 q.params, .int .i64 q.regs, .sl fl 5 (Ql q.blocks)])] ++ ([(x2, .st [.int .i64 0, .int .i64 0, .sl true 5 []])] ++ ([(x4, .st [.int .i64 q.params, .int .i64 q.regs, .vsl zb 5 0 q.blocks.length])] ++
    ([(zb, .vec 5 (ds.map DBlk.row ++ d.row :: ks'.map KBlk.row))] ++ (ds.flatMap DBlk.lg ++ d.lg ++ ks'.flatMap KBlk.pl)))))) ∧
    lk 1 e2 = .c (.ptr x1 0) ∧ lk 2 e2 = .c (.ptr x2 0) ∧ lk 3 e2 = .c (.ptr l 0) ∧ lk 4 e2 = .c (.ptr x4 0) ∧ lk 17 e2 = .c (.int .i64 q.blocks.length) ∧ lk 18 e2 = .c (.int .i64 ds.length)) ?_ ?_
   ·intro Q hnr _ _
    refine Qc ?_
    refine Qa ?_
    simp only [go_sem, l1, l2, l3, l4, l17, l18]
    have rlen : ∀ (r : List C), (ds.map DBlk.row ++ r :: ks'.map KBlk.row).length = q.blocks.length := fun r => by
     simp only [List.length_append, List.length_cons, List.length_map]; omega
    have rtake : ∀ (r : List C), (ds.map DBlk.row ++ r :: ks'.map KBlk.row).take q.blocks.length = ds.map DBlk.row ++ r :: ks'.map KBlk.row := fun r => List.take_of_length_le (by rw [rlen]; omega)
    have rget : ∀ (r : List C), (ds.map DBlk.row ++ r :: ks'.map KBlk.row).getD ds.length [] = r := fun r => Qbcm (by rw [List.length_map])
    have rset : ∀ (r r' : List C), (ds.map DBlk.row ++ r :: ks'.map KBlk.row).set ds.length r' = ds.map DBlk.row ++ r' :: ks'.map KBlk.row := fun r r' => Qba2 (by rw [List.length_map])
    generalize hRD : ds.map DBlk.row = RD at *
    generalize hRK : ks'.map KBlk.row = RK at *
    have er : k.row = [k.pc, .sl false 4 (Qaj y.ins), .int .i64 y.jump, .int .i64 y.on, .sl false 1 (Qe y.next)] := by rw [KBlk.row, kRow, hy2]
    have hkok : Gr k.pl 2 (Q1 y.phis) k.pc := by rw [← hy2]; exact hkok
    rw [List.map_cons, hRK, er, List.flatMap_cons] at kn
    obtain ⟨pc, hpc⟩ : ∃ pc, k.pc = pc := ⟨_, rfl⟩
    obtain ⟨pl, hpl⟩ : ∃ pl, k.pl = pl := ⟨_, rfl⟩
    rw [hpc] at kn hkok hpw2
    rw [hpl] at kn hkok
    have hx4 : H6 x4 = .st [.int .i64 q.params, .int .i64 q.regs, .vsl zb 5 0 q.blocks.length] := (kn.get (x4, .st [.int .i64 q.params, .int .i64 q.regs, .vsl zb 5 0 q.blocks.length]) (by simp)).1
    have hzb : H6 zb = .vec 5 (RD ++ [pc, .sl false 4 (Qaj y.ins), .int .i64 y.jump, .int .i64 y.on, .sl false 1 (Qe y.next)] :: RK) := (kn.get (zb, .vec 5 (RD ++ [pc, .sl false 4 (Qaj y.ins), .int .i64 y.jump, .int .i64 y.on, .sl false 1 (Qe y.next)] :: RK)) (by simp)).1
    refine Qa ?_
    simp only [go_sem, hx4, hzb, rlen, hlt, Nat.zero_add, Nat.le_refl]
    refine Qa ?_
    simp only [go_sem]
    refine Q4v (F := H6) hqo hlt (by omega) (by rw [← hy]; omega) him kn.mid fun M ver nk H7 hnd hlt3 hks k2 => ?_
    have kn := kn.comp k2 rfl
    simp only [go_sem, Qjr]
    intro x7 hx7 H8 h8
    have kn := kn.al hx7 h8
    have hx7 : H8 x7 = .st [.mnil] := (kn.get (x7, .st [.mnil]) (by simp)).1
    simp only [go_sem, Qjq, hx7]
    intro H9 h9
    obtain ⟨R0, hR0⟩ : ∃ R0, [(x1, Obj.st [.int .i64 q.params, .int .i64 q.regs, .sl fl 5 (Ql q.blocks)])] ++ ([(x2, Obj.st [.int .i64 0, .int .i64 0, .sl true 5 []])] ++ [(x4, Obj.st [.int .i64 q.params, .int .i64 q.regs, .vsl zb 5 0 q.blocks.length])]) = R0 := ⟨_, rfl⟩
    have kn : Kn H H9 [] (([(x7, .st [.mp M])] ++ ([(M, .map ver (Qai nk))] ++ (imE q fl l yi yp ss pr ++ (R0 ++ ([(zb, .vec 5 (RD ++ [pc, .sl false 4 (Qaj y.ins), .int .i64 y.jump, .int .i64 y.on, .sl false 1 (Qe y.next)] :: RK))] ++ (ds.flatMap DBlk.lg ++ ks'.flatMap KBlk.pl)))))) ++ pl) := by
     have k3 := (kn.perm (List.perm_append_comm)).stL 0 rfl h9
     refine k3.perm (Qr fun f hf h0 hc hp => ?_)
     show f ([(x7, _)] ++ _) = _
     rw [← hR0]
     simp only [hf]; omega
    have hzb : H9 zb = .vec 5 (RD ++ [pc, .sl false 4 (Qaj y.ins), .int .i64 y.jump, .int .i64 y.on, .sl false 1 (Qe y.next)] :: RK) := (kn.get (zb, .vec 5 (RD ++ [pc, .sl false 4 (Qaj y.ins), .int .i64 y.jump, .int .i64 y.on, .sl false 1 (Qe y.next)] :: RK)) (by simp)).1
    refine Qa ?_
    simp only [go_sem, hzb, rlen, rtake, rget, hlt, hpw2, Nat.zero_add, Nat.le_refl]
    refine Qaq0 (x7 := x7) (M := M) (ver := ver) (ks := nk) kn hkok (by omega) (by simp) (by simp) (fun x hx => (hyo.pto x hx).1) fun pc' pl' l' H10 hgw hsub hlen' kn => ?_
    have hpw3 := hgw.isOw
    have hzb : H10 zb = .vec 5 (RD ++ [pc, .sl false 4 (Qaj y.ins), .int .i64 y.jump, .int .i64 y.on, .sl false 1 (Qe y.next)] :: RK) := (kn.get (zb, .vec 5 (RD ++ [pc, .sl false 4 (Qaj y.ins), .int .i64 y.jump, .int .i64 y.on, .sl false 1 (Qe y.next)] :: RK)) (by simp)).1
    simp only [go_sem, Qjs, hzb, rlen, rtake, rget, rset, hlt, hpw2, hpw3, Nat.zero_add, Nat.le_refl]
    intro H11 h11
    have kn : Kn H H11 [] (imE q fl l yi yp ss pr ++ (R0 ++ ([(zb, .vec 5 (RD ++ [pc', .sl false 4 (Qaj y.ins), .int .i64 y.jump, .int .i64 y.on, .sl false 1 (Qe y.next)] :: RK))] ++ (ds.flatMap DBlk.lg ++ (pl' ++ ks'.flatMap KBlk.pl)))) ++ []) := by
     have k3 := (kn.perm (L' := [(zb, .vec 5 (RD ++ [pc, .sl false 4 (Qaj y.ins), .int .i64 y.jump, .int .i64 y.on, .sl false 1 (Qe y.next)] :: RK))] ++ (imE q fl l yi yp ss pr ++ (R0 ++ (ds.flatMap DBlk.lg ++ (pl' ++ ks'.flatMap KBlk.pl))) ++ ([(x7, .st [.mp M])] ++ [(M, .map ver (Qai nk))])))
      (Qr fun f hf h0 hc hp => by simp only [hf]; omega)).stL 0 rfl h11
     refine Kn.drop (B := [(x7, .st [.mp M])] ++ [(M, .map ver (Qai nk))]) (k3.perm (Qr fun f hf h0 hc hp => ?_))
     show f ([(zb, _)] ++ _) = _
     simp only [hf, h0]; omega
    have hzb : H11 zb = .vec 5 (RD ++ [pc', .sl false 4 (Qaj y.ins), .int .i64 y.jump, .int .i64 y.on, .sl false 1 (Qe y.next)] :: RK) := (kn.get (zb, .vec 5 (RD ++ [pc', .sl false 4 (Qaj y.ins), .int .i64 y.jump, .int .i64 y.on, .sl false 1 (Qe y.next)] :: RK)) (by simp)).1
    refine Qa ?_
    simp only [go_sem]
    refine Q4 ?_
    refine Qa ?_
    simp only [go_sem, hzb, rlen, rtake, rget, hlt, hpw3, Qab, Nat.zero_add, Nat.le_refl]
    try intro _
    refine Qh (Qc (Qu (fun m3 e1 H1 => ∃ (i : Nat) (lf : List InsD) (t : C) (Lg : List (Nat × Obj)), m3 = y.ins.length - i ∧ i ≤ y.ins.length ∧ (∀ x ∈ lf, x ∈ y.ins) ∧ lf.length + (Q4z q ds.length i).length ≤ i ∧ Gr Lg 4 (Qaj lf) t ∧
     Kn H H1 [] (imE q fl l yi yp ss pr ++ (R0 ++ ([(zb, .vec 5 (RD ++ [pc', .sl false 4 (Qaj y.ins), .int .i64 y.jump, .int .i64 y.on, .sl false 1 (Qe y.next)] :: RK))] ++ (ds.flatMap DBlk.lg ++ (pl' ++ ks'.flatMap KBlk.pl)))) ++ Lg) ∧
     lk 1 e1 = .c (.ptr x1 0) ∧ lk 2 e1 = .c (.ptr x2 0) ∧ lk 3 e1 = .c (.ptr l 0) ∧ lk 4 e1 = .c (.ptr x4 0) ∧ lk 5 e1 = .c (.int .i64 ds.length) ∧ lk 6 e1 = .c (.ep (.vsl zb 5 0 q.blocks.length) 5 ds.length 0) ∧ lk 8 e1 = .c t ∧
     lk 17 e1 = .c (.int .i64 q.blocks.length) ∧ lk 18 e1 = .c (.int .i64 ds.length) ∧ lk 40 e1 = .c (.sl false 4 (Qaj y.ins)) ∧ lk 41 e1 = .c (.int .i64 y.ins.length) ∧ lk 42 e1 = .c (.int .i64 i)) y.ins.length ?_ ?_))
    ·exact ⟨0, [], _, [], by omega, by omega, by simp, by simp [Q4z], .nil 4, kn, rfl, rfl, rfl, rfl, rfl, rfl, rfl, rfl, rfl, rfl, rfl, rfl⟩
    ·clear kn hzb
     rintro m3 e3 H12 ⟨i, lf, t, Lg, hm3, hi, hlf, hcnt2, hgr, kn, l1, l2, l3, l4, l5, l6, l8, l17, l18, l40, l41, l42⟩
     have htw := hgr.isOw
     refine Qa ?_
     simp only [go_sem, l1, l2, l3, l4, l5, l6, l8, l17, l18, l40, l41, l42, htw]
     refine Qh (Qd rfl ?_ ?_)
     ·intro hc3
      have hilt : i < y.ins.length := by simpa using hc3
      obtain ⟨x, hx⟩ : ∃ x, y.ins[i] = x := ⟨_, rfl⟩
      have hxm : x ∈ y.ins := by rw [← hx]; exact List.getElem_mem hilt
      refine Qf ?_
      try simp only [go_sem]
      refine Qdm (fun e1 H1 => ∃ (lf : List InsD) (t : C) (Lg : List (Nat × Obj)), (∀ x ∈ lf, x ∈ y.ins) ∧ lf.length + (Q4z q ds.length (i + 1)).length ≤ i + 1 ∧ Gr Lg 4 (Qaj lf) t ∧
       Kn H H1 [] (imE q fl l yi yp ss pr ++ (R0 ++ ([(zb, .vec 5 (RD ++ [pc', .sl false 4 (Qaj y.ins), .int .i64 y.jump, .int .i64 y.on, .sl false 1 (Qe y.next)] :: RK))] ++ (ds.flatMap DBlk.lg ++ (pl' ++ ks'.flatMap KBlk.pl)))) ++ Lg) ∧
       lk 1 e1 = .c (.ptr x1 0) ∧ lk 2 e1 = .c (.ptr x2 0) ∧ lk 3 e1 = .c (.ptr l 0) ∧ lk 4 e1 = .c (.ptr x4 0) ∧ lk 5 e1 = .c (.int .i64 ds.length) ∧ lk 6 e1 = .c (.ep (.vsl zb 5 0 q.blocks.length) 5 ds.length 0) ∧ lk 8 e1 = .c t ∧
       lk 17 e1 = .c (.int .i64 q.blocks.length) ∧ lk 18 e1 = .c (.int .i64 ds.length) ∧ lk 40 e1 = .c (.sl false 4 (Qaj y.ins)) ∧ lk 41 e1 = .c (.int .i64 y.ins.length) ∧ lk 42 e1 = .c (.int .i64 i)) ?_ ?_
      ·intro Q2 hnr2 _ _
       refine Qc ?_
       refine Qa ?_
       simp only [go_sem, l1, l2, l3, l4, l5, l6, l8, l17, l18, l40, l41, l42, htw, hilt, Qab, Qa9 _ _ hilt, InsD.take4, InsD.allOw, InsD.len4, hx, InsD.cells]
       intro x10 hx10 H13 h13
       have kn := kn.al hx10 h13
       have hx10 : H13 x10 = .st [.int .i64 0, .int .i64 0, .sl true 1 [], .int .i64 0] := (kn.get (x10, .st [.int .i64 0, .int .i64 0, .sl true 1 [], .int .i64 0]) (by simp)).1
       simp only [go_sem, Qjt, hx10, l1, l2, l3, l4, l5, l6, l8, l17, l18, l40, l41, l42, htw]
       intro H14 h14
       have kn : Kn H H14 [] (imE q fl l yi yp ss pr ++ ((R0 ++ ([(zb, .vec 5 (RD ++ [pc', .sl false 4 (Qaj y.ins), .int .i64 y.jump, .int .i64 y.on, .sl false 1 (Qe y.next)] :: RK))] ++ (ds.flatMap DBlk.lg ++ (pl' ++ ks'.flatMap KBlk.pl)))) ++ ([(x10, .st [.int .i64 x.op, .int .i64 x.to, .sl false 1 (Qe x.args), .int .i64 x.n])] ++ Lg))) := by
        have k3 := (kn.perm (List.perm_append_comm)).stL 0 rfl h14
        refine k3.perm (Qr fun f hf h0 hc hp => ?_)
        show f ([(x10, _)] ++ _) = _
        simp only [hf]; omega
       refine Qa ?_
       simp only [go_sem, htw]
       refine Qaxr (F := H14) hqo hlt (by rw [← hy]; exact hilt) him hlv kn.mid fun H15 k2 => ?_
       have kn := kn.comp k2 rfl
       have hx10 : H15 x10 = .st [.int .i64 x.op, .int .i64 x.to, .sl false 1 (Qe x.args), .int .i64 x.n] := (kn.get (x10, .st [.int .i64 x.op, .int .i64 x.to, .sl false 1 (Qe x.args), .int .i64 x.n]) (by simp)).1
       simp only [go_sem, Qju, htw]
       refine Qd rfl ?_ ?_
       ·intro hc4
        have hid : Qv5 q ds.length i = false := by simpa using hc4
        refine Qq ?_
        simp only [go_sem, hx10, htw]
        have kn := kn.perm (L' := (imE q fl l yi yp ss pr ++ (R0 ++ ([(zb, .vec 5 (RD ++ [pc', .sl false 4 (Qaj y.ins), .int .i64 y.jump, .int .i64 y.on, .sl false 1 (Qe y.next)] :: RK))] ++ (ds.flatMap DBlk.lg ++ (pl' ++ ks'.flatMap KBlk.pl)))) ++ Lg) ++ [(x10, .st [.int .i64 x.op, .int .i64 x.to, .sl false 1 (Qe x.args), .int .i64 x.n])]) (Qr fun f hf h0 hc hp => by
         simp only [hf, h0]; omega)
        refine kn.drop.growR (new := Qaj [x]) hgr (.mk' _ _ _ _) (Qfw _) (by simp only [Qab, LIM, List.length_cons, List.length_nil]; omega) fun t2 Lg2 H16 hgr2 ht2 kn => ?_
        simp only [go_sem, Qjv, ht2]
        refine hnr2 _ _ ⟨lf ++ [x], t2, Lg2, fun w hw => ?_, ?_, ?_, kn, rfl, rfl, rfl, rfl, rfl, rfl, rfl, rfl, rfl, rfl, rfl, rfl⟩
        ·rcases List.mem_append.1 hw with hw | hw
         ·exact hlf w hw
         ·simp only [List.mem_singleton] at hw; rw [hw]; exact hxm
        ·rw [Qi1, hid]; simp only [List.length_append, List.length_cons, List.length_nil, Bool.false_eq_true, if_false]; omega
        ·have : Qaj (lf ++ [x]) = Qaj lf ++ Qaj [x] := by simp [Qaj]
         rw [this]; exact hgr2
       ·intro hc4
        have hid : Qv5 q ds.length i = true := by simpa using hc4
        have kn := kn.perm (L' := (imE q fl l yi yp ss pr ++ (R0 ++ ([(zb, .vec 5 (RD ++ [pc', .sl false 4 (Qaj y.ins), .int .i64 y.jump, .int .i64 y.on, .sl false 1 (Qe y.next)] :: RK))] ++ (ds.flatMap DBlk.lg ++ (pl' ++ ks'.flatMap KBlk.pl)))) ++ Lg) ++ [(x10, .st [.int .i64 x.op, .int .i64 x.to, .sl false 1 (Qe x.args), .int .i64 x.n])]) (Qr fun f hf h0 hc hp => by
         simp only [hf, h0]; omega)
        refine Qf ?_
        try simp only [go_sem]
        refine hnr2 _ _ ⟨lf, t, Lg, hlf, ?_, hgr, kn.drop, rfl, rfl, rfl, rfl, rfl, rfl, rfl, rfl, rfl, rfl, rfl, rfl⟩
        rw [Qi1, hid]; simp only [List.length_append, List.length_cons, List.length_nil, if_true]; omega
      ·rintro e4 H13 ⟨lf2, t2, Lg2, hlf2, hcnt3, hgr2, kn, l1, l2, l3, l4, l5, l6, l8, l17, l18, l40, l41, l42⟩
       have ht2 := hgr2.isOw
       refine Qq ?_
       simp only [go_sem, l1, l2, l3, l4, l5, l6, l8, l17, l18, l40, l41, l42, ht2]
       refine ⟨Qo (by omega) (by omega), ?_⟩
       show ∃ m, _
       exact ⟨y.ins.length - (i + 1), by omega, i + 1, lf2, t2, Lg2, rfl, by omega, hlf2, hcnt3, hgr2, kn, rfl, rfl, rfl, rfl, rfl, rfl, rfl, rfl, rfl, rfl, rfl, rfl⟩
     ·intro hc3
      have hie : i = y.ins.length := by have : y.ins.length ≤ i := (by simpa using hc3); omega
      subst hie
      refine Qt ?_
      simp only [go_sem, X.next]
      have hzb : H12 zb = .vec 5 (RD ++ [pc', .sl false 4 (Qaj y.ins), .int .i64 y.jump, .int .i64 y.on, .sl false 1 (Qe y.next)] :: RK) := (kn.get (zb, .vec 5 (RD ++ [pc', .sl false 4 (Qaj y.ins), .int .i64 y.jump, .int .i64 y.on, .sl false 1 (Qe y.next)] :: RK)) (by simp)).1
      refine Qq ?_
      simp only [go_sem, l1, l2, l3, l4, l5, l6, l8, l17, l18, l40, l41, l42, hzb, rlen, rtake, rget, rset, hlt, htw, hpw3, Nat.zero_add, Nat.le_refl]
      intro H13 h13
      obtain ⟨d, hd⟩ : ∃ d : DBlk, d = ⟨⟨l', lf, y.jump, y.on, y.next⟩, pc', pl', t, Lg⟩ := ⟨_, rfl⟩
      refine hnr _ _ ⟨d, ?_, ?_, ?_, rfl, rfl, rfl, rfl, rfl, rfl⟩
      ·rw [hd]; exact ⟨hgw, hgr⟩
      ·rw [hd]; exact ⟨rfl, rfl, rfl, hlf, hsub, hlen', hcnt2⟩
      ·have k3 := (kn.perm (L' := [(zb, .vec 5 (RD ++ [pc', .sl false 4 (Qaj y.ins), .int .i64 y.jump, .int .i64 y.on, .sl false 1 (Qe y.next)] :: RK))] ++ (imE q fl l yi yp ss pr ++ (R0 ++ (ds.flatMap DBlk.lg ++ (pl' ++ ks'.flatMap KBlk.pl))) ++ Lg))
        (Qr fun f hf h0 hc hp => by simp only [hf]; omega)).stL 0 rfl h13
       refine k3.perm (Qr fun f hf h0 hc hp => ?_)
       have e : DBlk.row d = [pc', t, .int .i64 y.jump, .int .i64 y.on, .sl false 1 (Qe y.next)] := by rw [hd]; rfl
       have e2 : DBlk.lg d = pl' ++ Lg := by rw [hd]; rfl
       show f ([(zb, _)] ++ _) = _
       rw [e, e2, ← hR0]
       simp only [hf]; omega
   ·rintro e4 H7 ⟨d, hdok, hdrp, kn, l1, l2, l3, l4, l17, l18⟩
    refine Qq ?_
    simp only [go_sem, l1, l2, l3, l4, l17, l18]
    refine ⟨Qo (by omega) (by omega), ?_⟩
    show ∃ m, _
    refine ⟨ks'.length, by omega, ds ++ [d], ks', rfl, by simp only [List.length_append, List.length_cons, List.length_nil]; omega, by simpa using hky', fun w hw => ?_, fun b hb => hko b (List.mem_cons_of_mem _ hb), fun i h1 h2 => ?_, ?_, rfl, rfl, rfl, rfl, rfl, ?_⟩
    ·rcases List.mem_append.1 hw with hw | hw
     ·exact hdo w hw
     ·simp only [List.mem_singleton] at hw; rw [hw]; exact hdok
    ·by_cases hi : i < ds.length
     ·rw [List.getElem_append_left hi]; exact hdr i h1 hi
     ·have hie : i = ds.length := by simp only [List.length_append, List.length_cons, List.length_nil] at h2; omega
      subst hie
      rw [← hy]
      simpa using hdrp
    ·simpa [List.flatMap_append, List.append_assoc] using kn
    ·simp [lk]
  ·intro hc
   have hks : ks = [] := by
    have : q.blocks.length ≤ ds.length := by simpa using hc
    exact List.eq_nil_of_length_eq_zero (by omega)
   subst hks
   simp only [List.length_nil, Nat.add_zero] at hlen
   refine Qt ?_
   simp only [go_sem, X.next]
   obtain ⟨d, hd⟩ : ∃ d : CodeD, d = ⟨q.params, q.regs, ds.map DBlk.y⟩ := ⟨_, rfl⟩
   have hdl : d.blocks.length = q.blocks.length := by rw [hd]; simpa using hlen
   obtain ⟨hdo2, hdc⟩ := Qbbv (d := d) hqo (by rw [hd]) hdl fun b h1 h2 => by
    have h3 : b < ds.length := by omega
    have : d.blocks[b] = ds[b].y := by subst hd; simp
    rw [this]; exact hdr b h1 h3
   have kn : Kn H H6 [] ([(x1, .st [.int .i64 q.params, .int .i64 q.regs, .sl fl 5 (Ql q.blocks)]), (x2, .st [.int .i64 0, .int .i64 0, .sl true 5 []]), (x4, .st [.int .i64 q.params, .int .i64 q.regs, .vsl zb 5 0 q.blocks.length])] ++
     ([(zb, .vec 5 (ds.map DBlk.row))] ++ ds.flatMap DBlk.lg)) := by
    simp only [List.map_nil, List.append_nil, List.flatMap_nil] at kn
    have k3 := (kn.perm List.perm_append_comm).drop
    simpa using k3
   have hmem : ∀ p ∈ [(zb, Obj.vec 5 (ds.map DBlk.row))] ++ ds.flatMap DBlk.lg, H6 p.1 = p.2 ∧ (([(zb, Obj.vec 5 (ds.map DBlk.row))] ++ ds.flatMap DBlk.lg).map Prod.fst).contains p.1 = true := fun p hp =>
    ⟨(kn.get p (List.mem_append_right _ (List.mem_append_right _ hp))).1, List.contains_iff_mem.2 (Qbc hp)⟩
   have hz := hmem (zb, .vec 5 (ds.map DBlk.row)) (by simp)
   have hrows : FrzR H6 (fun m => (([(zb, Obj.vec 5 (ds.map DBlk.row))] ++ ds.flatMap DBlk.lg).map Prod.fst).contains m) (ds.map DBlk.row) (Ql d.blocks) := by
    rw [hd]
    exact DBlk.frzR hdo fun w hw p hp => hmem p (List.mem_append_right _ (List.mem_flatMap.2 ⟨w, hw, hp⟩))
   obtain ⟨hfz, kn⟩ := kn.freezeL 2 rfl (og' := .st [.int .i64 q.params, .int .i64 q.regs, .sl false 5 (Ql d.blocks)])
    (FrzKL.st (.same (.same (.cons rfl (FrzR.vsl hz.2 hz.1 (by rw [List.length_map, hlen]) hrows) .nil)))) (by simp)
   refine c_gh (Qr8 _ (fun t => ?_) hfz) (e' := [(1, .c (.ptr x1 0)), (2, .c (.ptr x2 0)), (4, .c (.ptr x4 0))]) ?_
   ·by_cases t1 : t = 1
    ·subst t1; exact .c _ _ (.same _ rfl)
    by_cases t2 : t = 2
    ·subst t2; exact .c _ _ (.same _ rfl)
    by_cases t4 : t = 4
    ·subst t4; exact .c _ _ (.same _ rfl)
    have : lk t [(1, V.c (.ptr x1 0)), (2, .c (.ptr x2 0)), (4, .c (.ptr x4 0))] = .unk := by
     simp only [lk, t1, t2, t4, if_false]
    rw [this]
    exact .unk _
   generalize ((H6.frz fun m => (([(zb, Obj.vec 5 (ds.map DBlk.row))] ++ ds.flatMap DBlk.lg).map Prod.fst).contains m).set x4 (Obj.st [.int .i64 q.params, .int .i64 q.regs, .sl false 5 (Ql d.blocks)])) = H7 at *
   have kn : Kn H H7 [] [(x1, .st [.int .i64 q.params, .int .i64 q.regs, .sl fl 5 (Ql q.blocks)]), (x2, .st [.int .i64 0, .int .i64 0, .sl true 5 []]), (x4, .st [.int .i64 q.params, .int .i64 q.regs, .sl false 5 (Ql d.blocks)])] := kn
   clear hfz hrows hz hmem hdr hdo hko hky
   have hx1 := kn.l 0 rfl
   have hx4 := kn.l 2 rfl
   have hd1 := hdo2.b1
   refine Q4 ?_
   refine Qan ?_
   simp only [go_sem, hx1, hx4]
   have ed : [C.int .i64 q.params, C.int .i64 q.regs, C.sl false 5 (Ql d.blocks)] = [C.int .i64 d.params, C.int .i64 d.regs, C.sl false 5 (Ql d.blocks)] := by rw [hd]
   rw [ed]
   refine Qke hdo2.fts hd1 fun H8 hu => ?_
   have kn := kn.call0 hu
   have hx1 := kn.l 0 rfl
   simp only [go_sem, Qhx, hx1]
   refine Qke hqo.fts hb1 fun H9 hu => ?_
   have kn := kn.call0 hu
   have hx1 := kn.l 0 rfl
   have hx4 := kn.l 2 rfl
   simp only [go_sem, Qhw, hx1]
   have hcnt' : Qe3 d + idlN q0 q0.blocks.length ≤ Qe3 q0 := by
    rcases hcnt with rfl | hcnt
    ·exact hdc
    ·omega
   refine Qh (Qd rfl ?_ ?_)
   ·intro _
    have hx2 := kn.l 1 rfl
    refine Qa ?_
    simp only [go_sem, hx4, hx2]
    intro H10 h10
    have kn := kn.stL 1 rfl h10
    have hx2 := kn.l 1 rfl
    refine Qj ?_
    simp only [go_sem, X.next, Qz, Qac, Qs8, List.mem_singleton, forall_eq, RS.op, hx2]
    refine ⟨_, FrzL.ag (.cons (Qi rfl) (.cons (Qi rfl) (.cons (.same _ rfl) .nil))), ?_⟩
    have := hK d _ hdo2 (by rw [hd]; exact hpar) (by rw [hd]; exact hreg) hcnt' kn.fin
    rw [CodeD.cells, ← ed] at this
    exact this
   ·intro hc2
    have hne : ¬ ((Qe3 d : Nat) : Int) = (Qe3 q : Nat) := by simpa using hc2
    refine Qf ?_
    try simp only [go_sem]
    refine Qq ?_
    simp only [go_sem, hx4, hx1]
    intro H10 h10
    have kn := kn.stL 0 rfl h10
    show ∃ m, _
    refine ⟨Qe3 d, by omega, d, false, rfl, hdo2, by rw [hd]; exact hpar, by rw [hd]; exact hreg, .inr hcnt', ?_, rfl, rfl⟩
    rw [← ed]
    exact Kn.drop (A := [_, _]) (B := [_]) kn
end Go.AE.Y

namespace Go.AE.Y
attribute [local go_sem] cond_true cond_false Bool.not_true Bool.not_false
open Go.Proofs.Tryz
variable {H H0 F : Heap} {K : V → Heap → Prop} {E L B : List (Nat × Obj)} {fl : Bool}
attribute [local instance] Classical.propDecidable
def Drc (c d : CodeD) : Prop := d.ok ∧ Qe3 d + idlN c c.blocks.length ≤ Qe3 c
theorem Qa3p {l : List CodeD} (hl : l.length ≤ 4) (ho : ∀ c ∈ l, c.ok)
  (hK : ∀ ds H', ds.length = l.length → (∀ i (h1 : i < l.length) (h2 : i < ds.length), Drc l[i] ds[i]) → Upd H H' [] → K (.c (.sl false 3 (Qm ds))) H') :
  Qp prog Qb9 [.c (.sl fl 3 (Qm l)), .c (.fn Qb6 [])] H K := by
 refine Q0 ?_
 refine Qb Qat Qok ?_
 refine Qa ?_
 simp only [go_sem]
 refine Qa ?_
 simp only [go_sem]
 refine Q4 ?_
 refine Qa ?_
 simp only [go_sem, Qs]
 intro _
 refine Qh (Qc (Qu (fun m e1 H1 => ∃ (ds : List CodeD) (t : C) (Lg : List (Nat × Obj)), m = l.length - ds.length ∧ ds.length ≤ l.length ∧ (∀ i (h1 : i < l.length) (h2 : i < ds.length), Drc l[i] ds[i]) ∧ Gr Lg 3 (Qm ds) t ∧ Kn H H1 [] ([] ++ Lg) ∧
  e1 = [(1, .c (.fn Qb6 [])), (5, .c t), (8, .c (.sl fl 3 (Qm l))), (9, .c (.int .i64 l.length)), (10, .c (.int .i64 ds.length))]) l.length ?_ ?_))
 ·exact ⟨[], _, [], by simp, by simp, by simp, .nil 3, Kn.start0 H, rfl⟩
 ·rintro m e1 H1 ⟨ds, t, Lg, hm, hi, hdr, hgr, kn, rfl⟩
  have htw := hgr.isOw
  refine Qa ?_
  simp only [go_sem, htw]
  refine Qh (Qd rfl ?_ ?_)
  ·intro hc
   have hlt : ds.length < l.length := by simpa using hc
   obtain ⟨p, hp⟩ : ∃ p, l[ds.length] = p := ⟨_, rfl⟩
   have hpm : p ∈ l := by rw [← hp]; exact List.getElem_mem hlt
   refine Qf ?_
   try simp only [go_sem]
   refine Qh (Qc ?_)
   refine Qa ?_
   simp only [go_sem, htw, hlt, Qs, Q7 _ _ hlt, CodeD.cells, hp]
   intro x7 hx7 H2 h2
   have kn := kn.al hx7 h2
   have hx7 : H2 x7 = .st [.int .i64 0, .int .i64 0, .sl true 5 []] := (kn.get (x7, .st [.int .i64 0, .int .i64 0, .sl true 5 []]) (by simp)).1
   simp only [go_sem, Qdg, hx7, htw]
   intro H3 h3
   have kn : Kn H H3 [] ([(x7, .st [.int .i64 p.params, .int .i64 p.regs, .sl false 5 (Ql p.blocks)])] ++ Lg) := by
    have := kn.stL ([] ++ Lg).length (x := x7) (o := .st [.int .i64 0, .int .i64 0, .sl true 5 []]) (by simp) h3
    refine Kn.perm (by simpa using this) ?_
    exact List.perm_append_comm
   have hx7 := kn.l 0 rfl
   refine Qq ?_
   simp only [go_sem, htw, hx7, List.append_nil, List.map_nil]
   refine Qayw (ho p hpm) fun d H4 hdo _ _ hdc hu => ?_
   have kn := kn.call0 hu
   simp only [go_sem, Qdi, htw, CodeD.cells]
   refine kn.growR (new := Qm [d]) hgr (.mk' _ _ _ _) (Qbx _) (by simp only [Qs, LIM, List.length_cons, List.length_nil]; omega) fun t2 Lg2 H5 hgr2 ht2 kn => ?_
   simp only [go_sem, Qdh, ht2]
   refine Qq ?_
   simp only [go_sem, X.next, ht2]
   refine ⟨Qo (by omega) (by omega), l.length - (ds.length + 1), by omega, ds ++ [d], t2, Lg2, by simp, by simp; omega, fun i h1 h2 => ?_, ?_, ?_, by simp⟩
   ·by_cases hi : i < ds.length
    ·rw [List.getElem_append_left hi]; exact hdr i h1 hi
    ·have hie : i = ds.length := by simp only [List.length_append, List.length_cons, List.length_nil] at h2; omega
     subst hie
     rw [hp]
     have : (ds ++ [d])[ds.length] = d := by simp
     rw [this]
     exact ⟨hdo, hdc⟩
   ·have : Qm (ds ++ [d]) = Qm ds ++ Qm [d] := by simp [Qm]
    rw [this]; exact hgr2
   ·exact Kn.drop (B := [(x7, .st [.int .i64 p.params, .int .i64 p.regs, .sl false 5 (Ql p.blocks)])]) (kn.perm List.perm_append_comm)
  ·intro hc
   have hge : ds.length = l.length := by have : l.length ≤ ds.length := (by simpa using hc); omega
   refine Qt ?_
   simp only [go_sem, X.next]
   refine Qa ?_
   simp only [go_sem, htw]
   refine Qj ?_
   simp only [go_sem, Qz, Qac, Qe0, List.mem_singleton, forall_eq, RS.op, htw]
   exact ⟨_, .c _ _ (hgr.frz kn (Qbx _)), hK ds _ hge hdr kn.fin⟩
def DropOk (cs ds : List CodeD) : Prop := (Qfs cs = true ∧ ds.length = cs.length ∧ ∀ i (h1 : i < cs.length) (h2 : i < ds.length), Drc cs[i] ds[i]) ∨ (Qfs cs = false ∧ ds = [])
theorem Qa3s {cs : List CodeD} (hfit : ∀ c ∈ cs, c.fits) (hK : ∀ ds H', DropOk cs ds → Upd H H' [] → K (.tup [.ag [.sl false 3 (Qm ds)], .c (.bool (Qfs cs))]) H') :
  Qp prog Qki [.ag [.sl fl 3 (Qm cs)], .c (.fn Qb6 [])] H K := by
 refine Q0 ?_
 refine Qb Qat Qam1 ?_
 refine Qa ?_
 simp only [go_sem]
 intro x4 hx4 H1 h1
 have kn := (Kn.start0 H).al hx4 h1
 simp only [go_sem, Qpo]
 refine Q4 ?_
 refine Qa ?_
 simp only [go_sem]
 refine Qdr hfit fun H2 hu => ?_
 have kn := kn.call0 hu
 simp only [go_sem, Qpp]
 have hx4 := kn.l 0 rfl
 refine Qh (Qd rfl ?_ ?_)
 ·intro hc
  have hc := Quv hc
  refine Qa ?_
  simp only [go_sem, hx4]
  intro H3 h3
  have kn := kn.stL 0 rfl h3
  have hx4 := kn.l 0 rfl
  simp only [go_sem, Qpq]
  refine Qj ?_
  simp only [go_sem, X.next, Qz, Qac, Qot, List.forall_mem_cons, List.not_mem_nil, RS.op, hx4]
  have hK := hK [] _ (.inr ⟨hc, rfl⟩) kn.fin
  rw [hc] at hK
  exact ⟨fun _ => trivial, _, Qari (FrzL.ag (.cons FrzR.nil.sl .nil)) (.c _ _ (Qi rfl)), hK⟩
 ·intro hc
  have hg := Qg8 hc
  have hc4 : cs.length ≤ 4 := by have := (of_decide_eq_true hg).1; omega
  refine Qf ?_
  try simp only [go_sem]
  refine Qa ?_
  simp only [go_sem]
  refine Qa3p hc4 (fun c hc => by obtain ⟨i, hi, rfl⟩ := List.mem_iff_getElem.1 hc; exact Q0e hg hi) fun ds H3 hdl hdr hu => ?_
  have kn := kn.call0 hu
  have hx4 := kn.l 0 rfl
  simp only [go_sem, Qps, hx4]
  intro H4 h4
  have kn := kn.stL 0 rfl h4
  have hx4 := kn.l 0 rfl
  simp only [go_sem, Qpr]
  refine Qj ?_
  simp only [go_sem, X.next, Qz, Qac, Qot, List.forall_mem_cons, List.not_mem_nil, RS.op, hx4]
  have hK := hK ds _ (.inl ⟨hg, hdl, hdr⟩) kn.fin
  rw [hg] at hK
  exact ⟨fun _ => trivial, _, Qari (Qamc ds) (.c _ _ (Qi rfl)), hK⟩
theorem Qayk {cs : List CodeD} (hfit : ∀ c ∈ cs, c.fits) (hK : ∀ ds H', DropOk cs ds → Upd H H' [] → K (.tup [.ag [.sl false 3 (Qm ds)], .c (.bool (Qfs cs))]) H') :
  Qp prog Qh1 [.ag [.sl fl 3 (Qm cs)]] H K := by
 refine Q0 ?_
 refine Qb Qat Qajg ?_
 refine Qa ?_
 simp only [go_sem]
 intro x2 hx2 H1 h1
 have kn := (Kn.start0 H).al hx2 h1
 simp only [go_sem, Qls]
 refine Qa ?_
 simp only [go_sem]
 refine Qa3s hfit fun ds H2 hd hu => ?_
 have kn := kn.call0 hu
 have hx2 := kn.l 0 rfl
 simp only [go_sem, Qlu, List.getD_cons_zero, List.getD_cons_succ, hx2]
 intro H3 h3
 have kn := kn.stL 0 rfl h3
 have hx2 := kn.l 0 rfl
 simp only [go_sem, Qlt]
 refine Qj ?_
 simp only [go_sem, Qz, Qac, Qwc, List.forall_mem_cons, List.not_mem_nil, RS.op, hx2]
 exact ⟨fun _ => trivial, _, Qari (Qamc ds) (.c _ _ (Qi rfl)), hK ds _ hd kn.fin⟩
theorem DropOk.fits {cs ds : List CodeD} (h : DropOk cs ds) : ∀ c ∈ ds, c.fits := by
 rcases h with ⟨_, hl, h⟩ | ⟨_, rfl⟩
 ·intro c hc
  obtain ⟨i, hi, rfl⟩ := List.mem_iff_getElem.1 hc
  exact (h i (by omega) hi).1.fts
 ·simp
theorem DropOk.cnt {cs ds : List CodeD} (h : DropOk cs ds) (hg : Qfs cs = true) : (0 : Int) ≤ Qe8 cs - (Qcv cs).length ∧ Qe8 ds ≤ Qe8 cs - (Qcv cs).length := by
 rcases h with ⟨_, hl, h⟩ | ⟨h, _⟩
 ·have e1 : Qe8 cs = (Qfr Qe3 cs : Nat) := by rw [Qe8, if_pos hg]
  have e2 : Qcv cs = itU cs cs.length := by rw [Qcv, if_pos hg]
  have key : ∀ k, k ≤ cs.length → Qfr Qe3 (ds.take k) + (itU cs k).length ≤ Qfr Qe3 (cs.take k) := fun k => by
   induction k with
   | zero => intro _; simp [itU, Qfr]
   | succ k ih =>
    intro hk
    have h1 := ih (by omega)
    have hkc : k < cs.length := by omega
    have hkd : k < ds.length := by omega
    have h2 := (h k hkc hkd).2
    rw [Q41 hkc, List.length_append, Qbh hkc, Qbh hkd, Qai7]
    omega
  have h1 := key _ (Nat.le_refl _)
  rw [List.take_length, ← hl, List.take_length, hl] at h1
  rw [e1, e2]
  have h2 : Qe8 ds ≤ (Qfr Qe3 ds : Nat) := by
   rw [Qe8]; split
   ·exact Int.le_refl _
   ·omega
  omega
 ·rw [hg] at h; simp at h
theorem Qbac {cs : List CodeD} {n : Nat} {e : List Nat} (h : e ∈ itU cs n) : ∃ k b i, ∃ (hk : k < cs.length) (hb : b < cs[k].blocks.length) (hi : i < cs[k].blocks[b].ins.length), e = [k, b, i] ∧ Qv5 cs[k] b i = true := by
 simp only [itU, List.mem_flatMap, List.mem_range] at h
 obtain ⟨k, _, h⟩ := h
 by_cases hk : k < cs.length
 ·rw [List.getElem?_eq_getElem hk] at h
  simp only [itC, List.mem_flatMap, List.mem_range, itB, List.mem_map, Q4z, List.mem_filter] at h
  obtain ⟨b, hb, i, ⟨hi, hP⟩, rfl⟩ := h
  rw [Qgb hb] at hi
  exact ⟨k, b, i, hk, hb, hi, rfl, hP⟩
 ·rw [List.getElem?_eq_none (by omega)] at h
  simp at h
theorem Qaio {bs : List UInt8} (hK : ∀ (cs : List CodeD) H', Upd H H' [] → UnitOk cs → K (.ag [.sl false 3 (Qm cs)]) H') :
  Qp prog Qef [.c (.sl fl 1 (Qbt bs))] H K := by
 refine Q0 ?_
 refine Qb Qat Q2v ?_
 refine Qa ?_
 simp only [go_sem]
 intro x2 hx2 H1 h1
 have kn := (Kn.start0 H).al hx2 h1
 refine Qa ?_
 simp only [go_sem]
 refine Qa2y fun R H2 hR h2 => ?_
 have kn := kn.al hR h2 (R.o_ne 0)
 simp only [go_sem, Qg3]
 refine Qa2q (kn.l 1 rfl) (by omega) fun cs H3 k2 hk3 hk4 hu hok => ?_
 have kn := kn.callL 1 rfl hu (R.o_ne _)
 have hx2 := kn.l 0 rfl
 simp only [go_sem, Qg2, hx2]
 intro H4 h4
 have kn := kn.stL 0 rfl h4
 have hx2 := kn.l 0 rfl
 refine Qj ?_
 simp only [go_sem, Qz, Qac, Qlr, List.mem_singleton, forall_eq, RS.op, hx2]
 exact ⟨_, Qamc cs, hK cs _ kn.fin hok⟩
set_option maxHeartbeats 8000000 in
theorem FnIdle_c {bs : List UInt8} (hK : ∀ H', K (.c (.bool true)) H') : Qp prog Q0k [.c (.sl false 1 (Qbt bs))] H K := by
 refine Qb Qat Qar0 ?_
 have retT' : ∀ (e : Env) (H' : Heap), lk 2 e = .c (.bool true) → Qz Qu1 K .ret e H' := by
  intro e H' h2
  simp only [go_sem, Qz, Qac, Qu1, List.mem_singleton, forall_eq, RS.op, h2]
  exact hK H'
 refine Qa ?_
 simp only [go_sem]
 refine Q4 ?_
 refine Qa ?_
 simp only [go_sem, Qau]
 intro _
 refine Qh (Qd rfl (fun hc => ?_) (fun hc => ?_))
 ·refine Qa ?_
  simp only [go_sem]
  refine Qj ?_
  exact retT' _ _ rfl
 refine Qf ?_
 try simp only [go_sem]
 refine Qa ?_
 simp only [go_sem]
 refine Qaio fun cs H1 hu hok => ?_
 have hfit := hok.fits
 have kn := (Kn.start0 H).call0 hu
 simp only [go_sem, Qua]
 intro x3 hx3 H2 h2
 have kn := kn.al hx3 h2
 have hx3 := kn.l 0 rfl
 simp only [go_sem, Qt9, hx3]
 intro H3 h3
 have kn : Kn H H3 [] [(x3, .st [.sl false 3 (Qm cs)])] := kn.stL 0 rfl h3
 have hx3 := kn.l 0 rfl
 refine Qa ?_
 simp only [go_sem, hx3]
 refine Qark hfit fun H4 hu => ?_
 have kn := kn.call0 hu
 have hx3 := kn.l 0 rfl
 simp only [go_sem, Qub]
 refine Qa ?_
 simp only [go_sem, hx3]
 refine Qaxb hfit hok.2.1 fun H5 hu => ?_
 have kn := kn.call0 hu
 simp only [go_sem, Quc]
 obtain ⟨L, hL⟩ : ∃ L, Qcv cs = L := ⟨_, rfl⟩
 rw [hL]
 refine Q4 ?_
 refine Qa ?_
 simp only [go_sem, Qdd]
 intro hLlim
 simp only [LIM] at hLlim
 refine Qh (Qd rfl (fun h => by simp at h) (fun _ => ?_))
 refine Qf ?_
 try simp only [go_sem]
 refine Q4 ?_
 refine Qa ?_
 simp only [go_sem, Qdd]
 try intro _
 refine Qh (Qc (Qu (fun mm e1 H1 => ∃ (j : Nat), mm = L.length - j ∧ j ≤ L.length ∧ Kn H H1 [] [(x3, .st [.sl false 3 (Qm cs)])] ∧
  e1 = [(3, .c (.ptr x3 0)), (4, .c (.sl false 1 (Qi3 L))), (5, .c (.sl false 1 (Qi3 L))), (25, .c (.sl false 1 (Qi3 L))), (26, .c (.int .i64 L.length)), (27, .c (.int .i64 j))]) L.length ?_ ?_))
 ·exact ⟨0, by omega, by omega, kn, rfl⟩
 ·clear kn hx3
  rintro mm e1 H6 ⟨j, hmm, hj, kn, rfl⟩
  refine Qa ?_
  simp only [go_sem]
  refine Qh (Qd rfl ?_ ?_)
  ·intro hc1
   have hjl : j < L.length := by simpa using hc1
   have hg : Qfs cs = true := by
    cases h : Qfs cs with
    | true => rfl
    | false => rw [Qcv, h] at hL; subst hL; simp at hjl
   have hmem : L[j] ∈ itU cs cs.length := by
    have : itU cs cs.length = L := by rw [← hL, Qcv, if_pos hg]
    rw [this]; exact List.getElem_mem hjl
   obtain ⟨k, b, i, hk, hb, hi, he, hP⟩ := Qbac hmem
   have hqok := Q0e hg hk
   obtain ⟨q, hq⟩ : ∃ q, cs[k] = q := ⟨_, rfl⟩
   obtain ⟨y, hy⟩ : ∃ y, cs[k].blocks[b] = y := ⟨_, rfl⟩
   obtain ⟨x, hx⟩ : ∃ x, cs[k].blocks[b].ins[i] = x := ⟨_, rfl⟩
   have hyo := hqok.bs b hb
   have hxm : x ∈ cs[k].blocks[b].ins := by rw [← hx]; exact List.getElem_mem hi
   rw [Qai5 hb hi, hx] at hP
   have hP2 : Qs1 x.op = true ∧ ¬ x.to.toNat ∈ Qvv cs[k] b (i + 1) := by simpa [Qai4] using hP
   obtain ⟨hmk, hop10, hop6, hop7⟩ := Qux hP2.1
   have hto := hyo.to x hxm hmk
   have hmade : Qm4 x = x.to := by rw [Qm4, if_pos hmk]
   refine Qf ?_
   try simp only [go_sem]
   refine Qdm (fun e1 H1 => Kn H H1 [] [(x3, .st [.sl false 3 (Qm cs)])] ∧ lk 3 e1 = .c (.ptr x3 0) ∧ lk 4 e1 = .c (.sl false 1 (Qi3 L)) ∧ lk 5 e1 = .c (.sl false 1 (Qi3 L)) ∧ lk 25 e1 = .c (.sl false 1 (Qi3 L)) ∧ lk 26 e1 = .c (.int .i64 L.length) ∧ lk 27 e1 = .c (.int .i64 j)) ?_ ?_
   ·intro Q hnr _ _
    refine Qc ?_
    refine Qa ?_
    simp only [go_sem, hjl, Qdd, Q53 _ _ hjl, he]
    refine Q4 ?_
    refine Qa ?_
    simp only [go_sem, hjl, Qdd, Q53 _ _ hjl, he]
    refine Qa80 (ns := [k, b, i].map Int.ofNat) (ms := [k, b, i].map Int.ofNat) (.mk' _ _ _ _) rfl (.mk' _ _ _ _) rfl ?_
    simp only [go_sem, Qud, decide_true]
    refine Qh (Qd rfl (fun h => by simp at h) (fun _ => ?_))
    refine Qf ?_
    try simp only [go_sem]
    have hx3 := kn.l 0 rfl
    have g0 : (Qbp [k, b, i]).getD 0 [] = [.int .i64 k] := rfl
    have g1 : (Qbp [k, b, i]).getD 1 [] = [.int .i64 b] := rfl
    have g2 : (Qbp [k, b, i]).getD 2 [] = [.int .i64 i] := rfl
    have gl : (Qbp [k, b, i]).length = 3 := rfl
    have tn2 : Int.toNat 2 = 2 := rfl
    have hbq : b < q.blocks.length := by rw [← hq]; exact hb
    have hyq : q.blocks[b] = y := by subst hq; exact hy
    have hiy : i < y.ins.length := by rw [← hy]; exact hi
    have hxy : y.ins[i] = x := by subst hy; exact hx
    refine Qan ?_
    simp only [go_sem, hx3, g0, g1, g2, gl, tn2, hk, hbq, hiy, Qs, Q7 _ _ hk, CodeD.cells, hq, Qn, Q5 _ _ hbq, BlkD.cells, hyq, Qab, Qa9 _ _ hiy, hxy, InsD.cells]
    refine ⟨by omega, by omega, by omega, ?_⟩
    intro x8 hx8 H7 h7
    have kn := kn.al hx8 h7
    have hx8 := kn.l 1 rfl
    have hx3 := kn.l 0 rfl
    simp only [go_sem, Que, hx3, hx8, g0, g1, g2, gl, tn2, hk, hbq, hiy, Qs, Q7 _ _ hk, CodeD.cells, hq, Qn, Q5 _ _ hbq, BlkD.cells, hyq, Qab, Qa9 _ _ hiy, hxy, InsD.cells]
    refine ⟨by omega, by omega, by omega, ?_⟩
    intro H8 h8
    have kn : Kn H H8 [] ([(x3, .st [.sl false 3 (Qm cs)])] ++ [(x8, .st [.int .i64 x.op, .int .i64 x.to, .sl false 1 (Qe x.args), .int .i64 x.n])]) := kn.stL 1 rfl h8
    have hx8 := kn.l 1 rfl
    have hx3 := kn.l 0 rfl
    refine Qan ?_
    simp only [go_sem, hx3, hx8, g0, g1, g2, gl, tn2]
    refine ⟨by omega, by omega, by omega, ?_⟩
    refine Qac3 (i := (i : Int)) hfit hg hk hb (by omega) (by rw [hy]; omega) fun H9 hu => ?_
    have kn := kn.call0 hu
    have hx8 := kn.l 1 rfl
    have hx3 := kn.l 0 rfl
    have ei : ((i : Int) + 1).toNat = i + 1 := by omega
    rw [ei]
    simp only [go_sem, Qq9, hx8]
    refine Qahq (x := x) ?_
    simp only [go_sem, Qq8, hx8]
    refine Qbbk (ns := (Qvv cs[k] b (i + 1)).map Int.ofNat) (.mk' _ _ _ _) rfl ?_
    have hno : ((Qvv cs[k] b (i + 1)).map Int.ofNat).contains (Qm4 x) = false := by
     cases hcn : ((Qvv cs[k] b (i + 1)).map Int.ofNat).contains (Qm4 x) with
     | false => rfl
     | true =>
      have := List.contains_iff_mem.1 hcn
      obtain ⟨r, hr, hre⟩ := List.mem_map.1 this
      rw [hmade] at hre
      have : x.to.toNat = r := by have h := hto.1; simp at hre; omega
      exact absurd (this ▸ hr) hP2.2
    rw [hno]
    have d6 : decide (x.op = 6) = false := decide_eq_false hop6
    have d7 : decide (x.op = 7) = false := decide_eq_false hop7
    have d11 : decide ((11 : Int) ≤ x.op) = false := decide_eq_false (by omega)
    simp only [go_sem, Quf, hx8, d6, d7, d11]
    refine Qd rfl (fun h => by simp at h) (fun _ => ?_)
    refine Qf ?_
    try simp only [go_sem]
    exact hnr _ _ ⟨kn.drop (A := [_]), rfl, rfl, rfl, rfl, rfl, rfl⟩
   ·rintro e2 H7 ⟨kn, l3, l4, l5, l25, l26, l27⟩
    refine Qq ?_
    simp only [go_sem, X.next, l3, l4, l5, l25, l26, l27]
    exact ⟨Qo (by omega) (by omega), L.length - (j + 1), by omega, j + 1, rfl, by omega, kn, by trivial⟩
  ·intro hc1
   have hx3 := kn.l 0 rfl
   refine Qt ?_
   simp only [go_sem, X.next]
   refine Qa ?_
   simp only [go_sem, hx3]
   refine Qayk hfit fun ds H7 hdrop hu => ?_
   have kn := kn.call0 hu
   simp only [go_sem, Qrc, List.getD_cons_zero, List.getD_cons_succ]
   intro x9 hx9 H8 h8
   have kn := kn.al hx9 h8
   have hx9 := kn.l 1 rfl
   simp only [go_sem, Qrb, hx9]
   intro H9 h9
   have kn := kn.stL 1 rfl h9
   simp only [go_sem, Qra]
   have hx3 := kn.l 0 rfl
   have hx9 := kn.l 1 rfl
   refine Qan ?_
   simp only [go_sem, hx3]
   refine Qdr hfit fun H10 hu => ?_
   have kn := kn.call0 hu
   have hx3 := kn.l 0 rfl
   have hx9 := kn.l 1 rfl
   cases hg : Qfs cs with
   | false =>
    simp only [go_sem, Qgx, Qgw, Qgv, hx3, hx9, Qdd, eq_self, decide_true]
    refine Qj ?_
    exact retT' _ _ rfl
   | true =>
    obtain ⟨hc0, hc1⟩ := hdrop.cnt hg
    rw [hL] at hc0 hc1
    simp only [go_sem, Qgx, hx3, hx9, Qdd, eq_self, decide_true]
    try intro _
    refine Qahe hdrop.fits fun H11 hu => ?_
    have kn := kn.call0 hu
    have hx3 := kn.l 0 rfl
    have hx9 := kn.l 1 rfl
    simp only [go_sem, Qgw, hx3, hx9, Qdd]
    refine Qahe hfit fun H12 hu => ?_
    have hle : decide (Qe8 ds ≤ Qe8 cs - L.length) = true := decide_eq_true hc1
    have hsm : Qe8 cs ≤ 2 ^ 40 := by
     have h4 : Qfr Qe3 cs ≤ 800 := (of_decide_eq_true hg).2.2
     have h5 : Qe8 cs = (Qfr Qe3 cs : Nat) := by rw [Qe8, if_pos hg]
     omega
    have hLl : L.length ≤ 2 ^ 40 := by omega
    simp only [go_sem, Qgv, Qdd, hle]
    refine ⟨Qo (by omega) (by omega), ?_⟩
    refine Qj ?_
    exact retT' _ _ rfl
end Go.AE.Y

namespace Go.AE.Y
open Go.ChangeShapes Go.WideShapes Go.ChangeAt Go.RowKit
def Qa9b (w : World) (a : Option Addr) (len cap : Nat) (zs : List Int) : Prop :=
 (a = none ∧ len = 0 ∧ cap = 0 ∧ zs = []) ∨
 ∃ x, a = some x ∧ len ≤ cap ∧ zs.length = cap ∧ (∀ i, i < zs.length → w.cell? (x.add i) = some (.int .u8 (zs.getD i 0))) ∧ ∀ n ∈ zs, (Lit.int .u8 n).wf = true
theorem Qa5j (w : World) : Sat (fun _ => .none) ⟨fun b => decide (b < w.heap.size), fun _ => none, fun _ => none⟩ w := by
 refine ⟨fun b hb => ⟨by simp; omega, rfl⟩, ⟨0, fun _ _ => rfl⟩, fun b x h => by simp at h, fun b l p h => by simp at h, fun l => trivial⟩
theorem Qa9n {n : Int} (h : (Lit.int .u8 n).wf = true) : ((UInt8.ofNat n.toNat).toNat : Int) = n := by
 simp only [Lit.wf, Bool.and_eq_true, decide_eq_true_eq] at h
 have a1 : IntKind.min .u8 = 0 := by decide
 have a2 : IntKind.max .u8 = 255 := by decide
 rw [a1, a2] at h
 rw [UInt8.toNat_ofNat']
 omega
theorem calls_of_acall {P : Program} {f : Nat} (h : ∀ bs : List UInt8, bs.length ≤ 1048576 → Qp P f [.c (.sl false 1 (Qbt bs))] (fun _ => .none) fun v _ => v = .c (.bool true))
  {a0 : Option Addr} {len0 cap0 : Nat} {z0 : List Int} {w : World} (hr : Qa9b w a0 len0 cap0 z0) (hl : len0 ≤ 1048576) :
  Calls P f #[.slice a0 len0 cap0] w fun e w' => e = .returned (.bool true) ∧ Below w.heap.size w w' := by
 have key : ∃ bs : List UInt8, bs.length = len0 ∧ RepC w ⟨fun b => decide (b < w.heap.size), fun _ => none, fun _ => none⟩ (.sl false 1 (Qbt bs)) (.slice a0 len0 cap0) := by
  rcases hr with ⟨rfl, rfl, rfl, rfl⟩ | ⟨x, rfl, hlc, hz, hcell, hwf⟩
  ·exact ⟨[], rfl, .slnil _ _ _⟩
  ·obtain ⟨b, off, spot⟩ := x
   have hbl : ((z0.take len0).map fun n => UInt8.ofNat n.toNat).length = len0 := by simp; omega
   by_cases h0 : cap0 = 0
   ·subst h0
    have : len0 = 0 := by omega
    subst this
    exact ⟨[], rfl, .slnil _ _ _⟩
   have hc0 := hcell 0 (by omega)
   have hspot : spot = none := by simpa [Addr.add] using World.cell?_spot hc0
   subst hspot
   have hadd : ∀ i, (⟨b, off, none⟩ : Addr).add i = ⟨b, off + i, none⟩ := by
    intro i
    by_cases h : i = 0 <;> simp [Addr.add, h]
   have hb : b < w.heap.size := by
    rcases Nat.lt_or_ge b w.heap.size with h | h
    ·exact h
    ·simp [World.cell?, Addr.add, Array.getElem?_eq_none h] at hc0
   refine ⟨_, hbl, ?_⟩
   have hget : ∀ (i : Nat) (row : List C), (Qbt ((z0.take len0).map fun n => UInt8.ofNat n.toNat))[i]? = some row → i < len0 ∧ row = [.int .u8 (z0.getD i 0)] := by
    intro i row hi
    have hlt : i < len0 := by
     rcases Nat.lt_or_ge i len0 with h | h
     ·exact h
     ·rw [List.getElem?_eq_none (by rw [Qau]; omega)] at hi; simp at hi
    have hz0 : i < z0.length := by omega
    refine ⟨hlt, ?_⟩
    simp only [Qbt, List.getElem?_map, List.getElem?_take, if_pos hlt, List.getElem?_eq_getElem hz0, Option.map_some, Option.some.injEq] at hi
    rw [← hi, Qa9n (hwf _ (List.getElem_mem hz0))]
    simp [List.getD_eq_getElem?_getD, hz0]
   have := RepC.sl (w := w) (g := ⟨fun b => decide (b < w.heap.size), fun _ => none, fun _ => none⟩) false 1 (Qbt ((z0.take len0).map fun n => UInt8.ofNat n.toNat)) b off cap0 (fun i _ => .int .u8 (z0.getD i 0))
    (by rw [Qau, hbl]; simp only [LIM]; omega) (by simp) (by rw [Qau, hbl]; exact hlc) (by simpa using hb)
    (fun i row hi => by rw [(hget i row hi).2]; rfl)
    (fun i row j c hi hj => by
     obtain ⟨h1, rfl⟩ := hget i row hi
     have hj0 : j = 0 := by
      rcases Nat.eq_zero_or_pos j with h | h
      ·exact h
      ·rw [List.getElem?_eq_none (by simp; omega)] at hj; simp at hj
     subst hj0
     have := hcell i (by omega)
     rw [hadd] at this
     simpa using this)
    (fun i row j c hi hj => by
     obtain ⟨h1, rfl⟩ := hget i row hi
     have hj0 : j = 0 := by
      rcases Nat.eq_zero_or_pos j with h | h
      ·exact h
      ·rw [List.getElem?_eq_none (by simp; omega)] at hj; simp at hj
     subst hj0
     simp at hj; subst hj
     exact .int _ _)
   rw [Qau, hbl] at this
   exact this
 obtain ⟨bs, hbl, hrep⟩ := key
 have hc := (h bs (by omega)).2 _ w [.slice a0 len0 cap0] (Qa5j w) rfl (fun j x u hj hu => by
  cases j with
  | zero => simp at hj hu; subst hj; subst hu; exact .c _ _ hrep
  | succ j => simp at hj)
 refine hc.mono fun e w' => ?_
 rintro ⟨v, x, H', g', rfl, rfl, hst, hv⟩
 have : v = .bool true := by cases hv with | c _ _ h => cases h; rfl
 subst this
 exact ⟨rfl, hst.le.os, hst.le.tape, hst.le.output, hst.le.size, fun k hk => (hst.le.per k (by simpa using hk)).2⟩
end Go.AE.Y

