/- Part 2 of the proof: the engine, codes, walks and plain laws, each named where it stands. -/
import Derived.Test.YtajdffbgjodbfaaGreatZA
open Nat (reduceEqDiff reduceAdd reduceLeDiff reduceLT)
set_option linter.unusedVariables false
set_option linter.unusedSimpArgs false
set_option maxRecDepth 4000
namespace Go.AE
variable {P : Program} {H : Heap} {g : G} {w : World} {e : Env} {a : Act}
abbrev dn (listed : Array Bool) (i : Nat) : Prop := listed.getD i false = true
def Rdy (P : Program) (x : Item) (e : Env) (H : Heap) (v : V) : Prop :=
 match x with
 | .f _ gd op => gdO e gd ∧ (gdB e gd = true → op.obl (gdB e gd) e H) ∧ v = gdV gd (gdB e gd) (op.val e H)
 | .p _ gd f xs => gdO e gd ∧ ∃ r, (gdB e gd = true → (∀ y ∈ xs, y.fine (gdB e gd) e) ∧ Qa5v P f (xs.map fun y => y.v e) r) ∧ v = gdV gd (gdB e gd) r
 | _ => False
theorem Rdy.congr {x : Item} {e e' : Env} {v : V} (h : ∀ t ∈ x.looks, lk t e' = lk t e) (hr : Rdy P x e H v) : Rdy P x e' H v := by
 have h1 := Qamx h
 have h2 := Qaxx h
 cases x with
 | f d gd op =>
  simp only [Item.gd] at h2
  simp only [Item.opds] at h1
  have h3 := FOp.congr (H := H) (p := gdB e gd) h1
  simp only [Rdy] at hr ⊢
  rw [h2.1, h2.2, h3.1, h3.2]; exact hr
 | p d gd f xs =>
  simp only [Item.gd] at h2
  simp only [Item.opds] at h1
  simp only [Rdy] at hr ⊢
  rw [h2.1, h2.2, Qx9 h1, Qun h1]; exact hr
 | e => exact hr
 | chk => exact hr
theorem Rdy.hcongr {x : Item} {e : Env} {H' : Heap} {v : V} (h : x.hf = true) (hr : Rdy P x e H v) : Rdy P x e H' v := by
 cases x with
 | f d gd op =>
  have h3 := FOp.hcongr (e := e) (H := H) (H' := H') (p := gdB e gd) (op := op) h
  simp only [Rdy] at hr ⊢
  rw [h3.1, h3.2]; exact hr
 | p d gd f xs => exact hr
 | e => exact hr
 | chk => exact hr
theorem Qa92 {n : Nat} {ops : Array Oper} {i : Nat} {o : Oper} {x : Item} {v : V} {Q : Exit → Act → World → Prop} {next : Act → World → Prop} (hoi : ops[i]? = some o) (hm : Qh9 P n ops o x = true)
  (hr : Rdy P x e H v) (hs : Sat H g w) (he : EnvOk w g (trim x.looks e) a)
  (hnext : ∀ u w' g', Stp H g w H g' w' → RepV w' g' v u → next (a.put x.dst u) w') :
  wpOp P ops Q i next a w := by
 have hr' : Rdy P x (trim x.looks e) H v := hr.congr fun t ht => by rw [Qajd, if_pos ht]
 unfold wpOp
 rw [hoi]
 simp only
 cases x with
 | f d gd op =>
  simp only [Qh9, Bool.and_eq_true] at hm
  obtain ⟨⟨h1, h2⟩, h3⟩ := hm
  obtain ⟨hd1, hd2⟩ := Qcz h1
  simp only [Rdy] at hr'
  obtain ⟨r1, r2, r3⟩ := hr'
  rw [Qka (n := n) h2 he r1]
  by_cases hg : gdB (trim (Item.f d gd op).looks e) gd = true
  ·rw [if_pos hg]
   obtain ⟨u, w', g', k1, k2, k3, k4⟩ := Qams h3 hs he hg (r2 hg)
   left
   unfold Oper.wp
   rw [k1, Oper.upon_value, hd1]
   refine hnext u w' g' k2 ?_
   rw [r3]
   cases gd with
   | none => exact k3
   | some tb => exact .gd _ _ _ (fun _ => k3) (fun h => by rw [hg] at h; simp at h)
  ·rw [if_neg hg]
   have hg' : gdB (trim (Item.f d gd op).looks e) gd = false := by simpa using hg
   rw [hd1]
   refine hnext _ _ g (.refl hs) ?_
   rw [r3]
   cases gd with
   | none => simp [gdB] at hg'
   | some tb => exact .gd _ _ _ (fun h => absurd h hg) (fun _ => rfl)
 | p d gd f xs =>
  simp only [Qh9, Bool.and_eq_true] at hm
  obtain ⟨⟨h1, h2⟩, h3⟩ := hm
  obtain ⟨hd1, hd2⟩ := Qcz h1
  simp only [Rdy] at hr'
  obtain ⟨r1, v0, r2, r3⟩ := hr'
  rw [Qka (n := n) h2 he r1]
  by_cases hg : gdB (trim (Item.p d gd f xs).looks e) gd = true
  ·rw [if_pos hg]
   obtain ⟨s1, s2⟩ := r2 hg
   left
   refine Qax2 h3 hs he hg s1 s2 Q next fun y u w' H' g' hk hst hrep => ?_
   obtain ⟨rfl, rfl⟩ := hk
   rw [hd1]
   refine hnext _ _ g' hst ?_
   rw [r3]
   cases gd with
   | none => exact hrep
   | some tb => exact .gd _ _ _ (fun _ => hrep) (fun h => by rw [hg] at h; simp at h)
  ·rw [if_neg hg]
   have hg' : gdB (trim (Item.p d gd f xs).looks e) gd = false := by simpa using hg
   rw [hd1]
   refine hnext _ _ g (.refl hs) ?_
   rw [r3]
   cases gd with
   | none => simp [gdB] at hg'
   | some tb => exact .gd _ _ _ (fun h => absurd h hg) (fun _ => rfl)
 | e => exact hr'.elim
 | chk => exact hr'.elim
theorem Qa9h {n : Nat} {ops : Array Oper} {i : Nat} {o : Oper} {d : Option Nat} {gd : Option (Nat × Bool)} {op : EOp} {K : V → Heap → Prop} {Q : Exit → Act → World → Prop} {next : Act → World → Prop} (hoi : ops[i]? = some o)
  (hm : Qh9 P n ops o (.e d gd op) = true) (hs : Sat H g w) (he : EnvOk w g (trim (Item.e d gd op).looks e) a)
  (h1 : gdO e gd) (h2 : gdB e gd = true → op.eff P (gdB e gd) e H K) (h3 : gdB e gd = false → K .unk H)
  (hnext : ∀ x u w' H' g', K x H' → Stp H g w H' g' w' → RepV w' g' x u → next (a.put d u) w') :
  wpOp P ops Q i next a w := by
 have hlk : ∀ t ∈ (Item.e d gd op).looks, lk t (trim (Item.e d gd op).looks e) = lk t e := fun t ht => by rw [Qajd, if_pos ht]
 have c1 := Qamx hlk
 have c2 := Qaxx hlk
 simp only [Item.gd] at c2
 simp only [Item.opds] at c1
 unfold wpOp
 rw [hoi]
 simp only
 simp only [Qh9, Bool.and_eq_true] at hm
 obtain ⟨⟨m1, m2⟩, m3⟩ := hm
 obtain ⟨hd1, hd2⟩ := Qcz m1
 rw [Qka (n := n) m2 he (c2.2.2 h1), c2.1]
 by_cases hg : gdB e gd = true
 ·rw [if_pos hg]
  left
  refine Q5c m3 hs he hg (EOp.congr c1 (h2 hg)) Q next fun x u w' H' g' hk hst hrep => ?_
  rw [hd1]
  exact hnext x u w' H' g' hk hst hrep
 ·rw [if_neg hg]
  rw [hd1]
  exact hnext .unk undef w H g (h3 (by simpa using hg)) (.refl hs) (.unk _)
structure Early (g0 : G) (H : Heap) (g : G) (w : World) (a : Act) (x : Item) : Prop where
 ok : ∃ (d : Nat) (cells : List C) (l b sz : Nat) (T : TypeId) (cs : Array Value), x = .e (some d) none (.alloc cells) ∧ g.io l = some (b, sz, 0) ∧ g.own b = some (l, []) ∧ w.heap[b]? = some (.cells cs T (0, 0)) ∧
  cs.size = cells.length ∧ (∀ (k : Nat) (c : C) (v : Value), cells[k]? = some c → cs[k]? = some v → RepC w g c v) ∧ H l = .none ∧ g0.io l = none ∧ RepV w g (.c (.ptr l 0)) (a.tmps.getD d undef)
theorem Early.mono {g0 : G} {x : Item} {H' : Heap} {g' : G} {w' : World} {a' : Act} (h : Early g0 H g w a x) (hs : Stp H g w H' g' w') (ha : ∀ d, x.dst = some d → a'.tmps.getD d undef = a.tmps.getD d undef) : Early g0 H' g' w' a' x := by
 obtain ⟨d, cells, l, b, sz, T, cs, h1, h2, h3, h4, h5, h6, h7, h8, h9⟩ := h.ok
 obtain ⟨k1, k2⟩ := hs.fr l (by rw [h2]; simp) h7
 obtain ⟨k3, k4⟩ := k2 b [] h3
 refine ⟨d, cells, l, b, sz, T, cs, h1, hs.le.io _ _ h2, k3, k4.trans h4, h5, fun k c v p q => (h6 k c v p q).mono hs.le, k1, h8, ?_⟩
 rw [ha d (by rw [h1]; rfl)]
 exact h9.mono hs.le
theorem Qayx {n : Nat} {ops : Array Oper} {i : Nat} {o : Oper} {x : Item} {g0 : G} {Q : Exit → Act → World → Prop} {next : Act → World → Prop} (hoi : ops[i]? = some o) (hm : Qh9 P n ops o x = true) (hf : x.isFa = true)
  (hs : Sat H g w) (h0 : ∀ l y, g0.io l = some y → g.io l = some y) (hn : a.tmps.size = n)
  (hnext : ∀ u w' g', Stp H g w H g' w' → Early g0 H g' w' (a.put x.dst u) x → next (a.put x.dst u) w') :
  wpOp P ops Q i next a w := by
 cases x with
 | e d gd op =>
  cases op with
  | alloc cells =>
   cases d with
   | none => simp [Item.isFa] at hf
   | some d =>
    cases gd with
    | some => simp [Item.isFa] at hf
    | none =>
     simp only [Qh9, Bool.and_eq_true] at hm
     obtain ⟨⟨m1, m2⟩, m3⟩ := hm
     obtain ⟨hd1, hd2⟩ := Qcz m1
     have hdn := hd2 d hd1
     simp only [mE] at m3
     split at m3
     ·rename_i t hop
      obtain ⟨i1, z, z1, z2, z3⟩ := Qi5 m3
      obtain ⟨l, hl, hH⟩ := hs.newName
      have hr := Qkb (w := w) (g := g) z3
      have hle := Qge hs hl cells.length 0 (.cells z.cells t)
      have hst := Qcn hs hl cells.length 0 (.cells z.cells t) .none (fun g' hg => trivial)
      rw [Heap.set_self _ _ _ hH] at hst
      have hg0 : g0.io l = none := by
       cases hx : g0.io l with
       | none => rfl
       | some y => rw [h0 l y hx] at hl; simp at hl
      have hw : Region.wanted o (yielded ops a.tmps) = true := by
       unfold Region.wanted
       cases hgd : o.guard with
       | none => rfl
       | some jb => rw [hgd] at m2; simp [mG] at m2
      unfold wpOp
      rw [hoi]
      simp only
      rw [if_pos hw]
      left
      unfold Oper.wp
      have hrun : (execOp a.eval o).run P w = .ok (.value (.pointer (some ⟨w.heap.size, 0, none⟩))) (w.alloc (.cells z.cells t)) := by
       simp [execOp, hop, Instr.alloc, Qta z1 z2, newVar, newRow]
      rw [hrun, Oper.upon_value, hd1]
      refine hnext _ _ _ hst ⟨d, cells, l, w.heap.size, cells.length, t, z.cells, rfl, by simp [G.newObj], by simp [G.newObj], Qbr _ _, hr.1, fun k c v p q => (hr.2 k c v p q).mono hle, hH, hg0, ?_⟩
      have : (a.put (Item.e (some d) none (.alloc cells)).dst (.pointer (some ⟨w.heap.size, 0, none⟩))).tmps.getD d undef = .pointer (some ⟨w.heap.size, 0, none⟩) := by
       simp only [Item.dst, Act.put]
       rw [Array.getD_eq_getD_getElem?, Array.getElem?_setIfInBounds_self_of_lt (by omega)]; rfl
      rw [this]
      exact .c _ _ (.ptr l 0 w.heap.size cells.length 0 (by simp [G.newObj]))
     ·simp at m3
  | _ => cases d <;> (try cases gd) <;> simp [Item.isFa] at hf
 | _ => simp [Item.isFa] at hf
theorem Qa18 {H0 : Heap} {g0 : G} {w0 : World} {x : Item} (hst : Stp H0 g0 w0 H g w) (h : Early g0 H g w a x) :
  ∃ d cells l, x = .e (some d) none (.alloc cells) ∧ H l = .none ∧ Stp H0 g0 w0 (H.set l (.st cells)) g w ∧ RepV w g (.c (.ptr l 0)) (a.tmps.getD d undef) := by
 obtain ⟨d, cells, l, b, sz, T, cs, h1, h2, h3, h4, h5, h6, h7, h8, h9⟩ := h.ok
 refine ⟨d, cells, l, h1, h7, ⟨hst.le, fun m hm hn => ?_, ⟨hst.sat.fresh, hst.sat.names, hst.sat.excl, hst.sat.named, fun m => ?_⟩⟩, h9⟩
 ·have hml : m ≠ l := fun h => by subst h; exact hm h8
  rw [Heap.set_other _ _ hml]
  exact hst.fr m hm hn
 ·by_cases hml : m = l
  ·subst hml
   rw [Heap.set_same]
   exact ⟨b, sz, T, cs, h2, h3, h4, h5, fun k c v p q => .plain _ _ _ _ (h6 k c v p q)⟩
  ·have hH' := Heap.set_other H (.st cells) hml
   rw [hH', ← hH']
   refine SatObj.keep hst.sat (.refl _ _) (fun b q hb => ⟨hb, rfl⟩) hH' fun m' v left cur hc v' es hv => ?_
   by_cases hm' : m' = l
   ·subst hm'; rw [Heap.set_same] at hv; simp at hv
   ·rw [Heap.set_other _ _ hm'] at hv
    exact .inl ⟨hv, fun b q hb => ⟨hb, rfl⟩⟩
end Go.AE

namespace Go.AE
variable {P : Program} {H : Heap} {g : G} {w : World} {e : Env} {a : Act}
structure Fix where
 P : Program
 n : Nat
 ops : Array Oper
 ms : List Nat
 fa : Nat
 L : List Row
 H0 : Heap
 g0 : G
 w0 : World
 K : Env → Heap → Prop
def Fix.anc (F : Fix) (i j : Nat) : Prop := (F.ms.getD i 0).testBit j = true
def Qe7 (F : Fix) (listed : Array Bool) (pre : List Row) (y : Row) (t : Nat) (z : Row) : Prop :=
 z ∈ pre ∧ z.2.isChk = false ∧ ¬ dn listed z.1 ∧ z.2.dst = some t ∧ F.anc y.1 z.1
def Pend (F : Fix) (listed : Array Bool) (a : Act) (w : World) (pre : List Row) (e : Env) (H : Heap) (g : G) (y : Row) : Prop :=
 ∃ (o : Oper) (x : Item) (ei : Env) (v : V), F.ops[y.1]? = some o ∧ Qh9 F.P F.n F.ops o x = true ∧ x.dst = y.2.dst ∧ x.looks = y.2.looks ∧ (y.2.hf = true → x.hf = true) ∧
  Rdy F.P x ei H v ∧ (∀ d, y.2.dst = some d → lk d e = v) ∧
  ∀ t ∈ y.2.looks, (∀ z, Qe7 F listed pre y t z → lk t ei = lk t e) ∧ ((¬ ∃ z, Qe7 F listed pre y t z) → RepV w g (lk t ei) (a.tmps.getD t undef))
structure DInv (F : Fix) (listed : Array Bool) (a : Act) (w : World) (pre post : List Row) (e : Env) (H : Heap) (g : G) : Prop where
 split : F.L = pre ++ post
 rest : Qm2 F.P (post.map Prod.snd) e H F.K
 stp : Stp F.H0 F.g0 F.w0 H g w
 size : a.tmps.size = F.n
 defers : a.defers = []
 lsz : listed.size = F.ops.size
 closed : ∀ i, dn listed i → ∀ j, F.anc i j → dn listed j
 eDone : ∀ y ∈ pre, y.2.isE = true → dn listed y.1
 postDone : ∀ y ∈ post, y.2.isChk = false → dn listed y.1 → y.1 = F.fa ∧ Early F.g0 H g w a y.2
 pend : ∀ y ∈ pre, y.2.isFl = true → ¬ dn listed y.1 → Qai1 y.1 post = true ∨ Pend F listed a w pre e H g y
 temps : ∀ t, (∃ y ∈ pre, y.2.isChk = false ∧ ¬ dn listed y.1 ∧ y.2.dst = some t) ∨ (∃ y ∈ post, y.2.isChk = false ∧ y.1 = F.fa ∧ dn listed F.fa ∧ y.2.dst = some t) ∨ RepV w g (lk t e) (a.tmps.getD t undef)
structure FixOk (F : Fix) : Prop where
 rows : Qanq F.P F.n F.ops F.ms F.fa [] F.L = true
 all : ∀ i, i < F.ops.size → ∃ y ∈ F.L, y.2.isChk = false ∧ y.1 = i
theorem FixOk.row {F : Fix} (hF : FixOk F) {A B : List Row} {y : Row} (h : F.L = A ++ y :: B) (hc : y.2.isChk = false) : ∃ o, RowOk F.P F.n F.ops F.ms F.fa A y B o := by
 have := Qu5 _ _ hF.rows A y B h
 exact Qazq this hc
def Q47 (F : Fix) (x y : Row) : Prop := ∃ A B, F.L = A ++ y :: B ∧ x ∈ A
theorem FixOk.pair {F : Fix} (hF : FixOk F) {x y : Row} (h : Q47 F x y) (hx : x.2.isChk = false) (hy : y.2.isChk = false) : PairOk F.ms F.fa x y := by
 obtain ⟨A, B, h1, h2⟩ := h
 obtain ⟨o, ho⟩ := hF.row h1 hy
 exact ho.pair x h2 hx
theorem Qbs {F : Fix} {pre post : List Row} (h : F.L = pre ++ post) {x y : Row} (hx : x ∈ pre) (hy : y ∈ post) : Q47 F x y := by
 obtain ⟨s, t, rfl⟩ := List.append_of_mem hy
 exact ⟨pre ++ s, t, by rw [h]; simp, by simp [hx]⟩
theorem Qc9 {F : Fix} {pre post : List Row} {y x : Row} (h : F.L = pre ++ y :: post) (hx : x ∈ post) : Q47 F y x :=
 Qbs (pre := pre ++ [y]) (by simpa using h) (by simp) hx
theorem Qahg {F : Fix} {x y : Row} (hx : x ∈ F.L) (hy : y ∈ F.L) : x = y ∨ Q47 F x y ∨ Q47 F y x := by
 obtain ⟨s, t, h⟩ := List.append_of_mem hx
 have : y ∈ s ++ x :: t := h ▸ hy
 rcases List.mem_append.1 this with k | k
 ·exact .inr (.inr ⟨s, t, h, k⟩)
 ·rcases List.mem_cons.1 k with k | k
  ·exact .inl k.symm
  ·exact .inr (.inl (Qc9 h k))
theorem FixOk.inj {F : Fix} (hF : FixOk F) {x y : Row} (hx : x ∈ F.L) (hy : y ∈ F.L) (hxc : x.2.isChk = false) (hyc : y.2.isChk = false) (h : x.1 = y.1) : x = y := by
 rcases Qahg hx hy with k | k | k
 ·exact k
 ·exact absurd h (hF.pair k hxc hyc).ne
 ·exact absurd h.symm (hF.pair k hyc hxc).ne
theorem Qhf {x : Item} (h : x.isFl = true) : x.isChk = false ∧ x.isE = false := by
 cases x <;> simp_all [Item.isFl, Item.isChk, Item.isE]
theorem Qamv {x : Item} (h : x.isE = true) : x.isChk = false ∧ x.isFl = false := by
 cases x <;> simp_all [Item.isFl, Item.isChk, Item.isE]
theorem Qi0 {j : Nat} {y : Row} {r : List Row} (h : Qai1 j (y :: r) = true) : y.2.isChk = true ∧ (y.1 = j ∨ Qai1 j r = true) := by
 simpa [Qai1] using h
theorem DInv.passFl {F : Fix} (hF : FixOk F) {listed : Array Bool} {pre r : List Row} {y : Row} (hI : DInv F listed a w pre (y :: r) e H g) (hy : y.2.isFl = true) (v : V) (hr : Rdy F.P y.2 e H v)
  (hrest : Qm2 F.P (r.map Prod.snd) (Q42 y.2.dst v e) H F.K) (hnd : ¬ dn listed y.1) : DInv F listed a w (pre ++ [y]) r (Q42 y.2.dst v e) H g := by
 obtain ⟨hyc, hye⟩ := Qhf hy
 obtain ⟨o, ho⟩ := hF.row hI.split hyc
 have hL : y ∈ F.L := by rw [hI.split]; simp
 have hpre : ∀ z ∈ pre, z ∈ F.L := fun z hz => by rw [hI.split]; simp [hz]
 have hpost : ∀ z ∈ r, z ∈ F.L := fun z hz => by rw [hI.split]; simp [hz]
 have hlk : ∀ t, y.2.dst ≠ some t → lk t (Q42 y.2.dst v e) = lk t e := by
  intro t ht
  cases hd : y.2.dst with
  | none => rfl
  | some d =>
   simp only [Q42, lk]
   rw [if_neg]
   intro h; subst h; exact ht hd
 have hlkd : ∀ t, y.2.dst = some t → lk t (Q42 y.2.dst v e) = v := by
  intro t ht
  rw [ht]; simp [Q42, lk]
 refine ⟨by rw [hI.split]; simp, hrest, hI.stp, hI.size, hI.defers, hI.lsz, hI.closed, ?_, ?_, ?_, ?_⟩
 ·intro z hz hzE
  rcases List.mem_append.1 hz with k | k
  ·exact hI.eDone z k hzE
  ·simp at k; subst k; rw [hye] at hzE; simp at hzE
 ·exact fun z hz => hI.postDone z (by simp [hz])
 ·intro z hz hzf hzn
  obtain ⟨hzc, hze⟩ := Qhf hzf
  right
  rcases List.mem_append.1 hz with k | k
  ·rcases hI.pend z k hzf hzn with h | h
   ·have := (Qi0 h).1
    rw [hyc] at this; simp at this
   ·obtain ⟨o', x, ei, u, p1, p2, p3, p4, p5, p6, p7, p8⟩ := h
    refine ⟨o', x, ei, u, p1, p2, p3, p4, p5, p6, ?_, ?_⟩
    ·intro d hd
     rw [hlk d fun h => (hF.pair (Qbs hI.split k (by simp)) hzc hyc).dst d hd h]
     exact p7 d hd
    ·intro t ht
     obtain ⟨q1, q2⟩ := p8 t ht
     have hb : ∀ z', Qe7 F listed (pre ++ [y]) z t z' → Qe7 F listed pre z t z' := by
      rintro z' ⟨b1, b2, b3, b4, b5⟩
      refine ⟨?_, b2, b3, b4, b5⟩
      rcases List.mem_append.1 b1 with b | b
      ·exact b
      ·simp at b; subst b
       have := (hF.pair (Qbs hI.split k (by simp)) hzc hyc).top
       rw [Fix.anc, this] at b5; simp at b5
     refine ⟨?_, ?_⟩
     ·intro z' hz'
      have hz'' := hb z' hz'
      rw [q1 z' hz'', hlk]
      intro h
      exact (hF.pair (Qbs hI.split hz''.1 (by simp)) hz''.2.1 hyc).dst t hz''.2.2.2.1 h
     ·intro hno
      refine q2 fun ⟨z', b1, b2⟩ => hno ⟨z', ?_, b2⟩
      simp [b1]
  ·simp at k; subst k
   refine ⟨o, z.2, e, v, ho.op, ho.item, rfl, rfl, id, hr, hlkd, ?_⟩
   intro t ht
   have hself : z.2.dst ≠ some t := fun h => ho.self t h ht
   refine ⟨?_, ?_⟩
   ·intro z' hz'
    rw [hlk t hself]
   ·intro hno
    rcases hI.temps t with ⟨y', k1, k2, k3, k4⟩ | ⟨y', k1, k2, k3, k4, k5⟩ | k
    ·exact absurd ⟨y', by simp [k1], k2, k3, k4, (hF.pair (Qbs hI.split k1 (by simp)) k2 hzc).raw t k4 ht⟩ hno
    ·exfalso
     rcases List.mem_cons.1 k1 with h | h
     ·subst h; exact hself k5
     ·have := (hF.pair (Qc9 hI.split h) hzc k2).war t k5 ht
      rw [k3] at this
      exact hnd (hI.closed _ k4 _ this)
    ·exact k
 ·intro t
  by_cases ht : y.2.dst = some t
  ·exact .inl ⟨y, by simp, hyc, hnd, ht⟩
  ·rw [hlk t ht]
   rcases hI.temps t with ⟨y', k1, k2, k3, k4⟩ | ⟨y', k1, k2, k3, k4, k5⟩ | k
   ·exact .inl ⟨y', by simp [k1], k2, k3, k4⟩
   ·rcases List.mem_cons.1 k1 with h | h
    ·subst h; exact absurd k5 ht
    ·exact .inr (.inl ⟨y', h, k2, k3, k4, k5⟩)
   ·exact .inr (.inr k)
theorem DInv.passChk {F : Fix} (hF : FixOk F) {listed : Array Bool} {pre r : List Row} {j d : Nat} {gd : Option (Nat × Bool)} {op : FOp} (hI : DInv F listed a w pre ((j, .chk d gd op) :: r) e H g) :
  DInv F listed a w (pre ++ [(j, .chk d gd op)]) r e H g := by
 have hrow := Qu5 _ _ hF.rows pre _ _ hI.split
 obtain ⟨o, c1, c2, ⟨y0, c3, c4, c5, c6, c7, c8⟩, c9⟩ := Qayr hrow
 have hrest := hI.rest
 simp only [List.map_cons, Qm2] at hrest
 obtain ⟨⟨r1, r2, r3⟩, r4⟩ := hrest
 have hpre : ∀ z ∈ pre, z ∈ F.L := fun z hz => by rw [hI.split]; simp [hz]
 have hbe : ∀ z t z', Qe7 F listed (pre ++ [(j, .chk d gd op)]) z t z' ↔ Qe7 F listed pre z t z' := by
  intro z t z'
  constructor
  ·rintro ⟨b1, b2⟩
   refine ⟨?_, b2⟩
   rcases List.mem_append.1 b1 with b | b
   ·exact b
   ·simp at b; subst b; simp [Item.isChk] at b2
  ·rintro ⟨b1, b2⟩; exact ⟨by simp [b1], b2⟩
 refine ⟨by rw [hI.split]; simp, r4, hI.stp, hI.size, hI.defers, hI.lsz, hI.closed, ?_, ?_, ?_, ?_⟩
 ·intro z hz hzE
  rcases List.mem_append.1 hz with k | k
  ·exact hI.eDone z k hzE
  ·simp at k; subst k; simp [Item.isE] at hzE
 ·exact fun z hz => hI.postDone z (by simp [hz])
 ·intro z hz hzf hzn
  obtain ⟨hzc, hze⟩ := Qhf hzf
  have k : z ∈ pre := by
   rcases List.mem_append.1 hz with k | k
   ·exact k
   ·simp at k; subst k; simp [Item.isChk] at hzc
  have hold : Pend F listed a w pre e H g z → Pend F listed a w (pre ++ [(j, .chk d gd op)]) e H g z := by
   rintro ⟨o', x, ei, u, p1, p2, p3, p4, p5, p6, p7, p8⟩
   refine ⟨o', x, ei, u, p1, p2, p3, p4, p5, p6, p7, fun t ht => ?_⟩
   simp only [hbe]; exact p8 t ht
  rcases hI.pend z k hzf hzn with h | h
  ·rcases (Qi0 h).2 with h' | h'
   ·right
    simp only at h'
    have hz0 : z = y0 := hF.inj (hpre _ k) (hpre _ c3) hzc c4 (by rw [c5, ← h'])
    subst hz0
    refine ⟨o, .f (some d) gd op, e, gdV gd (gdB e gd) (op.val e H), by rw [c5]; exact c1, c2, by rw [c7]; rfl, c6.symm, fun h => by rw [c8] at h; simp at h, ⟨r1, r2, rfl⟩, ?_, ?_⟩
    ·intro d' hd'
     rw [c7] at hd'; simp at hd'; subst hd'; exact r3
    ·intro t ht
     simp only [hbe]
     refine ⟨fun _ _ => trivial, fun hno => ?_⟩
     rcases hI.temps t with ⟨y', k1, k2, k3, k4⟩ | ⟨y', k1, k2, k3, k4, k5⟩ | k'
     ·exfalso
      refine hno ⟨y', k1, k2, k3, k4, ?_⟩
      have := c9 y' k1 k2 t k4 (by rw [← c6]; exact ht)
      rw [Fix.anc, c5]; exact this
     ·exfalso
      rcases List.mem_cons.1 k1 with h | h
      ·subst h; simp [Item.isChk] at k2
      ·have := (hF.pair (Qbs (pre := pre ++ [(j, .chk d gd op)]) (by rw [hI.split]; simp) (by simp [k]) h) hzc k2).war t k5 ht
       rw [k3] at this
       exact hzn (hI.closed _ k4 _ this)
     ·exact k'
   ·exact .inl h'
  ·exact .inr (hold h)
 ·intro t
  rcases hI.temps t with ⟨y', k1, k2, k3, k4⟩ | ⟨y', k1, k2, k3, k4, k5⟩ | k
  ·exact .inl ⟨y', by simp [k1], k2, k3, k4⟩
  ·rcases List.mem_cons.1 k1 with h | h
   ·subst h; simp [Item.isChk] at k2
   ·exact .inr (.inl ⟨y', h, k2, k3, k4, k5⟩)
  ·exact .inr (.inr k)
end Go.AE

namespace Go.AE
variable {P : Program} {H : Heap} {g : G} {w : World} {e : Env} {a : Act}
theorem Qfx {d : Option Nat} {v : V} {e : Env} {t : Nat} (h : d ≠ some t) : lk t (Q42 d v e) = lk t e := by
 cases d with
 | none => rfl
 | some s =>
  simp only [Q42, lk]
  rw [if_neg]
  intro k; subst k; exact h rfl
theorem Qahw {d : Option Nat} {v : V} {e : Env} {t : Nat} (h : d = some t) : lk t (Q42 d v e) = v := by
 subst h; simp [Q42, lk]
theorem Q0n {a : Act} {d : Option Nat} {u : Value} {t : Nat} (h : d ≠ some t) : (a.put d u).tmps.getD t undef = a.tmps.getD t undef := by
 cases d with
 | none => rfl
 | some s =>
  have : s ≠ t := fun k => by subst k; exact h rfl
  simp only [Act.put]
  rw [Array.getD_eq_getD_getElem?, Array.getElem?_setIfInBounds_ne this, ← Array.getD_eq_getD_getElem?]
theorem Qa3v {a : Act} {d : Option Nat} {u : Value} {t : Nat} (h : d = some t) (ht : t < a.tmps.size) : (a.put d u).tmps.getD t undef = u := by
 subst h
 simp only [Act.put]
 rw [Array.getD_eq_getD_getElem?, Array.getElem?_setIfInBounds_self_of_lt ht]; rfl
theorem Qb4 {listed : Array Bool} {i j : Nat} (hi : i < listed.size) : dn (listed.setIfInBounds i true) j ↔ j = i ∨ dn listed j := by
 by_cases h : j = i
 ·subst h; simp [dn, hi]
 ·simp only [dn, getD_set_ne false (Ne.symm h), h, false_or]
theorem Q55 {n : Nat} {ops : Array Oper} {o : Oper} {x : Item} (h : Qh9 P n ops o x = true) : ∀ t, x.dst = some t → t < n := by
 intro t ht
 cases x <;> simp only [Qh9, Bool.and_eq_true] at h
 case f d gd op => obtain ⟨h1, h2⟩ := Qcz h.1.1; simp only [Item.dst] at ht; exact h2 t (h1.trans ht)
 case p d gd f xs => obtain ⟨h1, h2⟩ := Qcz h.1.1; simp only [Item.dst] at ht; exact h2 t (h1.trans ht)
 case e d gd op => obtain ⟨h1, h2⟩ := Qcz h.1.1; simp only [Item.dst] at ht; exact h2 t (h1.trans ht)
 case chk => simp at h
theorem DInv.passE {F : Fix} (hF : FixOk F) {listed : Array Bool} {pre r : List Row} {y : Row} (hI : DInv F listed a w pre (y :: r) e H g) (hy : y.2.isE = true) (hyn : ¬ dn listed y.1) (hyf : y.1 ≠ F.fa)
  (hanc : ∀ j, F.anc y.1 j → dn listed j) {v : V} {u : Value} {w' : World} {H' : Heap} {g' : G}
  (hrest : Qm2 F.P (r.map Prod.snd) (Q42 y.2.dst v e) H' F.K) (hst : Stp H g w H' g' w') (hv : RepV w' g' v u) :
  DInv F (listed.setIfInBounds y.1 true) (a.put y.2.dst u) w' (pre ++ [y]) r (Q42 y.2.dst v e) H' g' := by
 obtain ⟨hyc, hyl⟩ := Qamv hy
 obtain ⟨o, ho⟩ := hF.row hI.split hyc
 have hlt : y.1 < listed.size := by rw [hI.lsz]; exact (Array.getElem?_eq_some_iff.1 ho.op).1
 have hpre : ∀ z ∈ pre, z ∈ F.L := fun z hz => by rw [hI.split]; simp [hz]
 have hbz : ∀ z ∈ pre, Q47 F z y := fun z hz => Qbs hI.split hz (by simp)
 refine ⟨by rw [hI.split]; simp, hrest, hI.stp.trans hst, by rw [(Qbi _ _ _).1]; exact hI.size, by rw [(Qbi _ _ _).2]; exact hI.defers, by simp [hI.lsz], ?_, ?_, ?_, ?_, ?_⟩
 ·intro i hi j hj
  rw [Qb4 hlt] at hi ⊢
  rcases hi with rfl | hi
  ·exact .inr (hanc j hj)
  ·exact .inr (hI.closed i hi j hj)
 ·intro z hz hzE
  rw [Qb4 hlt]
  rcases List.mem_append.1 hz with k | k
  ·exact .inr (hI.eDone z k hzE)
  ·simp at k; subst k; exact .inl rfl
 ·intro z hz hzc hzd
  have hzy := hF.pair (Qc9 hI.split hz) hyc hzc
  rw [Qb4 hlt] at hzd
  obtain ⟨k1, k2⟩ := hI.postDone z (by simp [hz]) hzc (hzd.resolve_left (Ne.symm hzy.ne))
  exact ⟨k1, k2.mono hst fun d hd => Q0n fun h => hzy.dst d h hd⟩
 ·intro z hz hzf hzn
  obtain ⟨hzc, hze⟩ := Qhf hzf
  rw [Qb4 hlt] at hzn
  have hzn' : ¬ dn listed z.1 := fun h => hzn (.inr h)
  have k : z ∈ pre := by
   rcases List.mem_append.1 hz with k | k
   ·exact k
   ·simp at k; subst k; rw [hyl] at hzf; simp at hzf
  have hp := hF.pair (hbz z k) hzc hyc
  by_cases hh : z.2.hf = true
  ·right
   rcases hI.pend z k hzf hzn' with h | h
   ·have := (Qi0 h).1
    rw [hyc] at this; simp at this
   ·obtain ⟨o', x, ei, u', p1, p2, p3, p4, p5, p6, p7, p8⟩ := h
    refine ⟨o', x, ei, u', p1, p2, p3, p4, p5, p6.hcongr (p5 hh), ?_, ?_⟩
    ·intro d hd
     rw [Qfx fun h => hp.dst d hd h]; exact p7 d hd
    ·intro t ht
     obtain ⟨q1, q2⟩ := p8 t ht
     have hyt : y.2.dst ≠ some t := fun h => by
      have := hp.war t h ht
      exact hzn' (hanc _ this)
     have hb : ∀ z', Qe7 F (listed.setIfInBounds y.1 true) (pre ++ [y]) z t z' ↔ Qe7 F listed pre z t z' := by
      intro z'
      constructor
      ·rintro ⟨b1, b2, b3, b4, b5⟩
       rw [Qb4 hlt] at b3
       refine ⟨?_, b2, fun h => b3 (.inr h), b4, b5⟩
       rcases List.mem_append.1 b1 with b | b
       ·exact b
       ·simp at b; subst b; exact absurd b4 hyt
      ·rintro ⟨b1, b2, b3, b4, b5⟩
       refine ⟨by simp [b1], b2, ?_, b4, b5⟩
       rw [Qb4 hlt]
       rintro (h | h)
       ·exact (hF.pair (hbz z' b1) b2 hyc).ne h
       ·exact b3 h
     simp only [hb, Qfx hyt, Q0n hyt]
     exact ⟨q1, fun h => (q2 h).mono hst.le⟩
  ·left
   have := ho.cover hy z k hzc (by simpa using hh)
   refine this ?_
   cases hx : (F.ms.getD y.1 0).testBit z.1 with
   | false => rfl
   | true => exact absurd (hanc _ hx) hzn'
 ·intro t
  by_cases ht : y.2.dst = some t
  ·right; right
   rw [Qahw ht, Qa3v ht (by rw [hI.size]; exact Q55 ho.item t ht)]
   exact hv
  ·rw [Qfx ht, Q0n ht]
   rcases hI.temps t with ⟨y', k1, k2, k3, k4⟩ | ⟨y', k1, k2, k3, k4, k5⟩ | k
   ·refine .inl ⟨y', by simp [k1], k2, ?_, k4⟩
    rw [Qb4 hlt]
    rintro (h | h)
    ·exact (hF.pair (hbz y' k1) k2 hyc).ne h
    ·exact k3 h
   ·rcases List.mem_cons.1 k1 with h | h
    ·subst h; exact absurd k3 hyf
    ·exact .inr (.inl ⟨y', h, k2, k3, (Qb4 hlt).2 (.inr k4), k5⟩)
   ·exact .inr (.inr (k.mono hst.le))
theorem DInv.passFa {F : Fix} (hF : FixOk F) {listed : Array Bool} {pre r : List Row} {y : Row} (hI : DInv F listed a w pre (y :: r) e H g) (hyc : y.2.isChk = false) (hyn : dn listed y.1) :
  ∃ e' H', DInv F listed a w (pre ++ [y]) r e' H' g := by
 obtain ⟨hyf, hea⟩ := hI.postDone y (by simp) hyc hyn
 obtain ⟨d, cells, l, h1, h2, h3, h4⟩ := Qa18 hI.stp hea
 obtain ⟨o, ho⟩ := hF.row hI.split hyc
 have hy : y.2.isE = true := by rw [h1]; rfl
 have hyl := (Qamv hy).2
 have hyd : y.2.dst = some d := by rw [h1]; rfl
 have hbz : ∀ z ∈ pre, Q47 F z y := fun z hz => Qbs hI.split hz (by simp)
 have hrest := hI.rest
 simp only [List.map_cons, h1, Qm2, gdO, gdB, true_and, EOp.eff] at hrest
 have hrest' := hrest.1 trivial l h2
 refine ⟨Q42 (some d) (.c (.ptr l 0)) e, H.set l (.st cells), ?_⟩
 refine ⟨by rw [hI.split]; simp, hrest', h3, hI.size, hI.defers, hI.lsz, hI.closed, ?_, ?_, ?_, ?_⟩
 ·intro z hz hzE
  rcases List.mem_append.1 hz with k | k
  ·exact hI.eDone z k hzE
  ·simp at k; subst k; exact hyn
 ·intro z hz hzc hzd
  obtain ⟨k1, k2⟩ := hI.postDone z (by simp [hz]) hzc hzd
  exact absurd (hyf.trans k1.symm) (hF.pair (Qc9 hI.split hz) hyc hzc).ne
 ·intro z hz hzf hzn
  obtain ⟨hzc, hze⟩ := Qhf hzf
  have k : z ∈ pre := by
   rcases List.mem_append.1 hz with k | k
   ·exact k
   ·simp at k; subst k; rw [hyl] at hzf; simp at hzf
  have hp := hF.pair (hbz z k) hzc hyc
  by_cases hh : z.2.hf = true
  ·right
   rcases hI.pend z k hzf hzn with h | h
   ·have := (Qi0 h).1
    rw [hyc] at this; simp at this
   ·obtain ⟨o', x, ei, u', p1, p2, p3, p4, p5, p6, p7, p8⟩ := h
    refine ⟨o', x, ei, u', p1, p2, p3, p4, p5, p6.hcongr (p5 hh), ?_, ?_⟩
    ·intro d' hd'
     rw [Qfx fun h => hp.dst d' hd' (by rw [hyd]; exact h)]; exact p7 d' hd'
    ·intro t ht
     obtain ⟨q1, q2⟩ := p8 t ht
     have hyt : some d ≠ some t := fun h => by
      have := hp.war t (by rw [hyd]; exact h) ht
      exact hzn (hI.closed _ hyn _ this)
     have hb : ∀ z', Qe7 F listed (pre ++ [y]) z t z' ↔ Qe7 F listed pre z t z' := by
      intro z'
      constructor
      ·rintro ⟨b1, b2, b3, b4, b5⟩
       refine ⟨?_, b2, b3, b4, b5⟩
       rcases List.mem_append.1 b1 with b | b
       ·exact b
       ·simp at b; subst b; rw [hyd] at b4; exact absurd b4 hyt
      ·rintro ⟨b1, b2⟩
       exact ⟨by simp [b1], b2⟩
     simp only [hb, Qfx hyt]
     exact ⟨q1, q2⟩
  ·left
   refine ho.cover hy z k hzc (by simpa using hh) ?_
   cases hx : (F.ms.getD y.1 0).testBit z.1 with
   | false => rfl
   | true => exact absurd (hI.closed _ hyn _ hx) hzn
 ·intro t
  by_cases ht : some d = some t
  ·right; right
   rw [Qahw ht]
   simp at ht; subst ht
   exact h4
  ·rw [Qfx ht]
   rcases hI.temps t with ⟨y', k1, k2, k3, k4⟩ | ⟨y', k1, k2, k3, k4, k5⟩ | k
   ·exact .inl ⟨y', by simp [k1], k2, k3, k4⟩
   ·rcases List.mem_cons.1 k1 with h | h
    ·subst h; rw [hyd] at k5; exact absurd k5 ht
    ·exact .inr (.inl ⟨y', h, k2, k3, k4, k5⟩)
   ·exact .inr (.inr k)
theorem DInv.doneFl {F : Fix} (hF : FixOk F) {listed : Array Bool} {pre post : List Row} {y : Row} (hI : DInv F listed a w pre post e H g) (hyp : y ∈ pre) (hy : y.2.isFl = true) (hyn : ¬ dn listed y.1)
  (hanc : ∀ j, F.anc y.1 j → dn listed j) {v : V} {u : Value} {w' : World} {g' : G} (hvd : ∀ d, y.2.dst = some d → lk d e = v)
  (hst : Stp H g w H g' w') (hv : RepV w' g' v u) :
  DInv F (listed.setIfInBounds y.1 true) (a.put y.2.dst u) w' pre post e H g' := by
 obtain ⟨hyc, hye⟩ := Qhf hy
 have hyL : y ∈ F.L := by rw [hI.split]; simp [hyp]
 obtain ⟨A, B, hAB⟩ := List.append_of_mem hyL
 obtain ⟨o, ho⟩ := hF.row hAB hyc
 have hlt : y.1 < listed.size := by rw [hI.lsz]; exact (Array.getElem?_eq_some_iff.1 ho.op).1
 have hpre : ∀ z ∈ pre, z ∈ F.L := fun z hz => by rw [hI.split]; simp [hz]
 refine ⟨hI.split, hI.rest, hI.stp.trans hst, by rw [(Qbi _ _ _).1]; exact hI.size, by rw [(Qbi _ _ _).2]; exact hI.defers, by simp [hI.lsz], ?_, ?_, ?_, ?_, ?_⟩
 ·intro i hi j hj
  rw [Qb4 hlt] at hi ⊢
  rcases hi with rfl | hi
  ·exact .inr (hanc j hj)
  ·exact .inr (hI.closed i hi j hj)
 ·intro z hz hzE
  rw [Qb4 hlt]
  exact .inr (hI.eDone z hz hzE)
 ·intro z hz hzc hzd
  have hzy := hF.pair (Qbs hI.split hyp hz) hyc hzc
  rw [Qb4 hlt] at hzd
  obtain ⟨k1, k2⟩ := hI.postDone z hz hzc (hzd.resolve_left (Ne.symm hzy.ne))
  exact ⟨k1, k2.mono hst fun d hd => Q0n fun h => hzy.dst d h hd⟩
 ·intro z hz hzf hzn
  obtain ⟨hzc, hze⟩ := Qhf hzf
  rw [Qb4 hlt] at hzn
  have hzn' : ¬ dn listed z.1 := fun h => hzn (.inr h)
  have hzy : z ≠ y := fun h => hzn (.inl (by rw [h]))
  rcases hI.pend z hz hzf hzn' with h | h
  ·exact .inl h
  ·right
   obtain ⟨o', x, ei, u', p1, p2, p3, p4, p5, p6, p7, p8⟩ := h
   refine ⟨o', x, ei, u', p1, p2, p3, p4, p5, p6, p7, ?_⟩
   intro t ht
   obtain ⟨q1, q2⟩ := p8 t ht
   have hb : ∀ z', Qe7 F (listed.setIfInBounds y.1 true) pre z t z' → Qe7 F listed pre z t z' := by
    rintro z' ⟨b1, b2, b3, b4, b5⟩
    rw [Qb4 hlt] at b3
    exact ⟨b1, b2, fun h => b3 (.inr h), b4, b5⟩
   refine ⟨fun z' hz' => q1 z' (hb z' hz'), fun hno => ?_⟩
   by_cases hyt : y.2.dst = some t
   ·have hbe : Qe7 F listed pre z t y := by
     refine ⟨hyp, hyc, hyn, hyt, ?_⟩
     rcases Qahg hyL (hpre z hz) with k | k | k
     ·exact absurd k.symm hzy
     ·exact (hF.pair k hyc hzc).raw t hyt ht
     ·exact absurd (hanc _ ((hF.pair k hzc hyc).war t hyt ht)) hzn'
    rw [q1 y hbe, hvd t hyt, Qa3v hyt (by rw [hI.size]; exact Q55 ho.item t hyt)]
    exact hv
   ·rw [Q0n hyt]
    refine (q2 fun ⟨z', b⟩ => hno ⟨z', ?_⟩).mono hst.le
    obtain ⟨b1, b2, b3, b4, b5⟩ := b
    refine ⟨b1, b2, ?_, b4, b5⟩
    rw [Qb4 hlt]
    rintro (h | h)
    ·have := hF.inj (hpre _ b1) hyL b2 hyc h
     subst this; exact hyt b4
    ·exact b3 h
 ·intro t
  by_cases ht : y.2.dst = some t
  ·right; right
   rw [hvd t ht, Qa3v ht (by rw [hI.size]; exact Q55 ho.item t ht)]
   exact hv
  ·rw [Q0n ht]
   rcases hI.temps t with ⟨y', k1, k2, k3, k4⟩ | ⟨y', k1, k2, k3, k4, k5⟩ | k
   ·refine .inl ⟨y', k1, k2, ?_, k4⟩
    rw [Qb4 hlt]
    rintro (h | h)
    ·have := hF.inj (hpre _ k1) hyL k2 hyc h
     subst this; exact ht k4
    ·exact k3 h
   ·exact .inr (.inl ⟨y', k1, k2, k3, (Qb4 hlt).2 (.inr k4), k5⟩)
   ·exact .inr (.inr (k.mono hst.le))
theorem DInv.doneFa {F : Fix} (hF : FixOk F) {listed : Array Bool} {pre post : List Row} {y : Row} (hI : DInv F listed a w pre post e H g) (hyp : y ∈ post) (hyc : y.2.isChk = false) (hyf : y.1 = F.fa) (hyn : ¬ dn listed y.1)
  (hanc : ∀ j, F.anc y.1 j → dn listed j) {u : Value} {w' : World} {g' : G}
  (hst : Stp H g w H g' w') (hv : Early F.g0 H g' w' (a.put y.2.dst u) y.2) :
  DInv F (listed.setIfInBounds y.1 true) (a.put y.2.dst u) w' pre post e H g' := by
 have hyL : y ∈ F.L := by rw [hI.split]; simp [hyp]
 obtain ⟨A, B, hAB⟩ := List.append_of_mem hyL
 obtain ⟨o, ho⟩ := hF.row hAB hyc
 have hlt : y.1 < listed.size := by rw [hI.lsz]; exact (Array.getElem?_eq_some_iff.1 ho.op).1
 have hpre : ∀ z ∈ pre, z ∈ F.L := fun z hz => by rw [hI.split]; simp [hz]
 have hpost : ∀ z ∈ post, z ∈ F.L := fun z hz => by rw [hI.split]; simp [hz]
 refine ⟨hI.split, hI.rest, hI.stp.trans hst, by rw [(Qbi _ _ _).1]; exact hI.size, by rw [(Qbi _ _ _).2]; exact hI.defers, by simp [hI.lsz], ?_, ?_, ?_, ?_, ?_⟩
 ·intro i hi j hj
  rw [Qb4 hlt] at hi ⊢
  rcases hi with rfl | hi
  ·exact .inr (hanc j hj)
  ·exact .inr (hI.closed i hi j hj)
 ·intro z hz hzE
  rw [Qb4 hlt]
  exact .inr (hI.eDone z hz hzE)
 ·intro z hz hzc hzd
  rw [Qb4 hlt] at hzd
  rcases hzd with h | h
  ·have := hF.inj (hpost _ hz) hyL hzc hyc h
   subst this
   exact ⟨hyf, hv⟩
  ·obtain ⟨k1, k2⟩ := hI.postDone z hz hzc h
   have := hF.inj (hpost _ hz) hyL hzc hyc (k1.trans hyf.symm)
   subst this
   exact absurd h hyn
 ·intro z hz hzf hzn
  obtain ⟨hzc, hze⟩ := Qhf hzf
  rw [Qb4 hlt] at hzn
  have hzn' : ¬ dn listed z.1 := fun h => hzn (.inr h)
  rcases hI.pend z hz hzf hzn' with h | h
  ·exact .inl h
  ·right
   obtain ⟨o', x, ei, u', p1, p2, p3, p4, p5, p6, p7, p8⟩ := h
   refine ⟨o', x, ei, u', p1, p2, p3, p4, p5, p6, p7, ?_⟩
   intro t ht
   obtain ⟨q1, q2⟩ := p8 t ht
   have hyt : y.2.dst ≠ some t := fun h => by
    have := (hF.pair (Qbs hI.split hz hyp) hzc hyc).war t h ht
    exact hzn' (hanc _ this)
   have hb : ∀ z', Qe7 F (listed.setIfInBounds y.1 true) pre z t z' ↔ Qe7 F listed pre z t z' := by
    intro z'
    constructor
    ·rintro ⟨b1, b2, b3, b4, b5⟩
     rw [Qb4 hlt] at b3
     exact ⟨b1, b2, fun h => b3 (.inr h), b4, b5⟩
    ·rintro ⟨b1, b2, b3, b4, b5⟩
     refine ⟨b1, b2, ?_, b4, b5⟩
     rw [Qb4 hlt]
     rintro (h | h)
     ·exact (hF.pair (Qbs hI.split b1 hyp) b2 hyc).ne h
     ·exact b3 h
   simp only [hb, Q0n hyt]
   exact ⟨q1, fun h => (q2 h).mono hst.le⟩
 ·intro t
  by_cases ht : y.2.dst = some t
  ·exact .inr (.inl ⟨y, hyp, hyc, hyf, (Qb4 hlt).2 (.inl hyf.symm), ht⟩)
  ·rw [Q0n ht]
   rcases hI.temps t with ⟨y', k1, k2, k3, k4⟩ | ⟨y', k1, k2, k3, k4, k5⟩ | k
   ·refine .inl ⟨y', k1, k2, ?_, k4⟩
    rw [Qb4 hlt]
    rintro (h | h)
    ·exact (hF.pair (Qbs hI.split k1 hyp) k2 hyc).ne h
    ·exact k3 h
   ·exact .inr (.inl ⟨y', k1, k2, k3, (Qb4 hlt).2 (.inr k4), k5⟩)
   ·exact .inr (.inr (k.mono hst.le))
end Go.AE

namespace Go.AE
variable {P : Program} {H : Heap} {g : G} {w : World} {e : Env} {a : Act}
def Qa9g (listed : Array Bool) (post : List Row) : Prop := post = [] ∨ ∃ y r, post = y :: r ∧ y.2.isE = true ∧ ¬ dn listed y.1
theorem Qx7 {F : Fix} (hF : FixOk F) {listed : Array Bool} : ∀ (post pre : List Row) (e : Env) (H : Heap), DInv F listed a w pre post e H g →
  ∃ pre' post' e' H', DInv F listed a w pre' post' e' H' g ∧ Qa9g listed post'
 | [], pre, e, H, hI => ⟨pre, [], e, H, hI, .inl rfl⟩
 | (i, x) :: r, pre, e, H, hI => by
  have hnE : x.isE = false → x.isChk = false → ¬ dn listed i := by
   intro hx hc hd
   obtain ⟨_, hea⟩ := hI.postDone (i, x) (by simp) hc hd
   obtain ⟨d, cells, l, b, sz, T, cs, h1, _⟩ := hea.ok
   simp only at h1
   rw [h1] at hx; simp [Item.isE] at hx
  have hrest := hI.rest
  cases x with
  | chk d gd op => exact Qx7 hF r _ e H (hI.passChk hF)
  | f d gd op =>
   simp only [List.map_cons, Qm2] at hrest
   exact Qx7 hF r _ _ H (hI.passFl hF rfl _ ⟨hrest.1, hrest.2.1, rfl⟩ hrest.2.2 (hnE rfl rfl))
  | p d gd f xs =>
   simp only [List.map_cons, Qm2] at hrest
   obtain ⟨r1, v, r2, r3⟩ := hrest
   exact Qx7 hF r _ _ H (hI.passFl hF rfl _ ⟨r1, v, r2, rfl⟩ r3 (hnE rfl rfl))
  | e d gd op =>
   by_cases hd : dn listed i
   ·obtain ⟨e', H', hI'⟩ := hI.passFa hF rfl hd
    exact Qx7 hF r _ e' H' hI'
   ·exact ⟨pre, _, e, H, hI, .inr ⟨_, r, rfl, rfl, hd⟩⟩
theorem Qamp {α : Type} {p q : α → Bool} : ∀ (l : List α), (∀ x ∈ l, q x = true → p x = true) → (∃ x ∈ l, p x = true ∧ q x = false) → l.countP q < l.countP p
 | [], _, h => by simp at h
 | x :: r, h1, h2 => by
  have hle : r.countP q ≤ r.countP p := List.countP_mono_left fun y hy => h1 y (by simp [hy])
  obtain ⟨y, hy, k1, k2⟩ := h2
  rcases List.mem_cons.1 hy with rfl | hy
  ·simp only [List.countP_cons, k1, k2]; simp; omega
  ·have := Qamp r (fun y hy => h1 y (by simp [hy])) ⟨y, hy, k1, k2⟩
   have hx := h1 x (by simp)
   simp only [List.countP_cons]
   cases hq : q x with
   | true => rw [hx hq]; simp; omega
   | false => simp; split <;> omega
def unl (F : Fix) (listed : Array Bool) : Nat := (List.range F.ops.size).countP fun i => !listed.getD i false
theorem Qaxg {F : Fix} (hF : FixOk F) {listed : Array Bool} (hsz : listed.size = F.ops.size) (hr : Region.ready .any F.ops listed = []) : ∀ (B A : List Row), F.L = A ++ B →
  (∀ y ∈ A, y.2.isChk = false → dn listed y.1) → ∀ y ∈ B, y.2.isChk = false → dn listed y.1
 | [], A, h, hA, y, hy, hc => by simp at hy
 | x :: r, A, h, hA, y, hy, hc => by
  have hx : x.2.isChk = false → dn listed x.1 := by
   intro hxc
   obtain ⟨o, ho⟩ := hF.row h hxc
   have hlt : x.1 < listed.size := by rw [hsz]; exact (Array.getElem?_eq_some_iff.1 ho.op).1
   by_cases hd : dn listed x.1
   ·exact hd
   ·exfalso
    have : x.1 ∈ Region.ready .any F.ops listed := by
     rw [mem_ready]
     refine ⟨?_, o, ho.op, fun ed hed hb => ?_⟩
     ·simp only [dn] at hd
      rw [Array.getD_eq_getD_getElem?, Array.getElem?_eq_getElem hlt] at hd ⊢
      simpa using hd
     ·obtain ⟨z, hz, h1, h2⟩ := ho.aft ed hed hb
      rw [← h2]; exact hA z hz h1
    rw [hr] at this; simp at this
  rcases List.mem_cons.1 hy with rfl | hy
  ·exact hx hc
  ·refine Qaxg hF hsz hr r (A ++ [x]) (by rw [h]; simp) ?_ y hy hc
   intro z hz hzc
   rcases List.mem_append.1 hz with k | k
   ·exact hA z k hzc
   ·simp at k; subst k; exact hx hzc
theorem Qaxl {F : Fix} (hF : FixOk F) {listed : Array Bool} {pre post : List Row} (hI : DInv F listed a w pre post e H g) (hst : Qa9g listed post) (hr : Region.ready .any F.ops listed = []) :
  Post F.n F.H0 F.g0 F.w0 F.K a w := by
 have hall := Qaxg hF hI.lsz hr F.L [] rfl (by simp)
 rcases hst with rfl | ⟨y, r, rfl, hy, hd⟩
 ·refine ⟨e, H, g, hI.rest, hI.stp, fun t => ?_, hI.defers, hI.size⟩
  rcases hI.temps t with ⟨y', k1, k2, k3, k4⟩ | ⟨y', k1, _⟩ | k
  ·exact absurd (hall y' (by rw [hI.split]; simp [k1]) k2) k3
  ·simp at k1
  ·exact k
 ·exact absurd (hall y (by rw [hI.split]; simp) (Qamv hy).1) hd
theorem Qa17 {F : Fix} (hF : FixOk F) {Q : Exit → Act → World → Prop} (hQ : ∀ a' w', Post F.n F.H0 F.g0 F.w0 F.K a' w' → Q .normal a' w') :
  ∀ (fuel : Nat) (listed : Array Bool) (a : Act) (w : World) (pre post : List Row) (e : Env) (H : Heap) (g : G), DInv F listed a w pre post e H g → Qa9g listed post → unl F listed ≤ fuel →
   wpAny F.P .any F.ops Q fuel listed a w := by
 intro fuel
 induction fuel with
 | zero =>
  intro listed a w pre post e H g hI hst hu
  have hr : Region.ready .any F.ops listed = [] := by
   rw [List.eq_nil_iff_forall_not_mem]
   intro i hi
   rw [mem_ready] at hi
   obtain ⟨h1, o, h2, h3⟩ := hi
   have hlt : i < F.ops.size := (Array.getElem?_eq_some_iff.1 h2).1
   have : 0 < unl F listed := by
    unfold unl
    rw [List.countP_pos_iff]
    refine ⟨i, by simp [hlt], ?_⟩
    have hlt' : i < listed.size := by rw [hI.lsz]; exact hlt
    rw [Array.getD_eq_getD_getElem?, Array.getElem?_eq_getElem hlt'] at h1 ⊢
    simpa using h1
   omega
  exact ⟨hr, hQ _ _ (Qaxl hF hI hst hr)⟩
 | succ fuel ih =>
  intro listed a w pre post e H g hI hst hu
  refine ⟨fun hr => hQ _ _ (Qaxl hF hI hst hr), ?_⟩
  intro i hi
  rw [mem_ready] at hi
  obtain ⟨h1, o, h2, h3⟩ := hi
  have hlt : i < F.ops.size := (Array.getElem?_eq_some_iff.1 h2).1
  have hlt' : i < listed.size := by rw [hI.lsz]; exact hlt
  have hnd : ¬ dn listed i := by
   simp only [dn]
   rw [Array.getD_eq_getD_getElem?, Array.getElem?_eq_getElem hlt'] at h1 ⊢
   simpa using h1
  have hu' : unl F (listed.setIfInBounds i true) ≤ fuel := by
   have : unl F (listed.setIfInBounds i true) < unl F listed := by
    refine Qamp _ ?_ ⟨i, by simp [hlt], ?_, ?_⟩
    ·intro j hj hq
     by_cases hij : i = j
     ·subst hij; simp [hlt'] at hq
     ·rw [getD_set_ne false hij] at hq; exact hq
    ·simpa [dn] using hnd
    ·simp [hlt']
   omega
  obtain ⟨y, hyL, hyc, hyi⟩ := hF.all i hlt
  subst hyi
  obtain ⟨A, B, hAB⟩ := List.append_of_mem hyL
  obtain ⟨o', ho⟩ := hF.row hAB hyc
  have hoo : o' = o := by have := ho.op; rw [h2] at this; simpa using this.symm
  subst hoo
  have hanc : ∀ j, F.anc y.1 j → dn listed j := by
   intro j hj
   obtain ⟨ed, k1, k2, k3⟩ := ho.anc j hj
   rcases k3 with k3 | k3
   ·rw [← k3]; exact h3 ed k1 k2
   ·exact hI.closed _ (h3 ed k1 k2) j k3
  have hgo : ∀ a' w' pre' post' e' H' g', DInv F (listed.setIfInBounds y.1 true) a' w' pre' post' e' H' g' → wpAny F.P .any F.ops Q fuel (listed.setIfInBounds y.1 true) a' w' := by
   intro a' w' pre' post' e' H' g' hI'
   obtain ⟨p2, q2, e2, H2, hI2, hs2⟩ := Qx7 hF post' pre' e' H' hI'
   exact ih _ a' w' p2 q2 e2 H2 g' hI2 hs2 hu'
  have hmem : y ∈ pre ∨ y ∈ post := by
   have : y ∈ pre ++ post := hI.split ▸ hyL
   exact List.mem_append.1 this
  have hearly : y.1 = F.fa → y ∈ post → wpOp F.P F.ops Q y.1 (wpAny F.P .any F.ops Q fuel (listed.setIfInBounds y.1 true)) a w := by
   intro hfa hyp
   refine Qayx h2 ho.item (ho.isFa hfa) hI.stp.sat (fun l z hz => hI.stp.le.io l z hz) hI.size (g0 := F.g0) fun u w' g' k1 k2 => ?_
   exact hgo _ _ _ _ _ _ _ (hI.doneFa hF hyp hyc hfa hnd hanc k1 k2)
  rcases hmem with hyp | hyp
  ·
   have hfl : y.2.isFl = true := by
    have hE := hI.eDone y hyp
    revert hE hyc
    cases y.2 <;> simp_all [Item.isFl, Item.isChk, Item.isE]
   rcases hI.pend y hyp hfl hnd with h | h
   ·exfalso
    rcases hst with rfl | ⟨z, r, rfl, hz, _⟩
    ·simp [Qai1] at h
    ·have := (Qi0 h).1
     rw [(Qamv hz).1] at this; simp at this
   ·obtain ⟨o2, x, ei, v, p1, p2, p3, p4, p5, p6, p7, p8⟩ := h
    rw [h2] at p1
    simp only [Option.some.injEq] at p1
    subst p1
    have hno : ∀ t, ¬ ∃ z, Qe7 F listed pre y t z := by
     rintro t ⟨z, b1, b2, b3, b4, b5⟩
     exact b3 (hanc _ b5)
    refine Qa92 (n := F.n) h2 p2 p6 hI.stp.sat ?_ fun u w' g' k1 k2 => ?_
    ·intro t
     rw [Qajd]
     split
     ·rename_i ht
      rw [p4] at ht
      exact (p8 t ht).2 (hno t)
     ·exact .unk _
    ·rw [p3]
     exact hgo _ _ _ _ _ _ _ (hI.doneFl hF hyp hfl hnd hanc p7 k1 k2)
  ·by_cases hfa : y.1 = F.fa
   ·exact hearly hfa hyp
   ·rcases hst with rfl | ⟨z, r, rfl, hz, hzd⟩
    ·simp at hyp
    ·have hyz : y = z := by
      rcases List.mem_cons.1 hyp with k | k
      ·exact k
      ·exfalso
       have := (hF.pair (Qc9 hI.split k) (Qamv hz).1 hyc).ord hz hfa
       exact hzd (hanc _ this)
     subst hyz
     have hrest := hI.rest
     have him := ho.item
     have hpass := @DInv.passE
     obtain ⟨yi, yx⟩ := y
     cases yx with
     | e d gd op =>
      simp only [List.map_cons, Qm2] at hrest
      obtain ⟨r1, r2, r3⟩ := hrest
      refine Qa9h (n := F.n) h2 him hI.stp.sat ?_ r1 r2 r3 fun x u w' H' g' k1 k2 k3 => ?_
      ·intro t
       rw [Qajd]
       split
       ·rename_i ht
        rcases hI.temps t with ⟨y', b1, b2, b3, b4⟩ | ⟨y', b1, b2, b3, b4, b5⟩ | k
        ·exfalso
         exact b3 (hanc _ ((hF.pair (Qbs hI.split b1 (by simp)) b2 hyc).raw t b4 ht))
        ·exfalso
         rcases List.mem_cons.1 b1 with h | h
         ·subst h; exact hnd (by rw [b3]; exact b4)
         ·have := (hF.pair (Qc9 hI.split h) hyc b2).war t b5 ht
          rw [b3] at this
          exact hnd (hI.closed _ b4 _ this)
        ·exact k
       ·exact .unk _
      ·exact hgo _ _ _ _ _ _ _ (hI.passE hF hz hnd hfa hanc k1 k2 k3)
     | f => simp [Item.isE] at hz
     | p => simp [Item.isE] at hz
     | chk => simp [Item.isE] at hz
theorem Qaqt (hs : Sat H g w) (k : Nat) : Stp H g w H g { w with drawn := k } := by
 have hle : Le g w g { w with drawn := k } := ⟨fun _ h => ⟨h, rfl⟩, fun _ _ h => h, Nat.le_refl _, fun _ _ _ h => h, rfl, rfl, rfl⟩
 have hk : ∀ l, Qx6 g w g { w with drawn := k } l := fun l b q hb => ⟨hb, rfl⟩
 exact ⟨hle, fun l _ hn => ⟨hn, fun b p hb => ⟨hb, rfl⟩⟩, hs.fresh, hs.names, hs.excl, hs.named, fun l => SatObj.keep_all hs hle hk l⟩
theorem Qayv {n id fa : Nat} {ord : List Nat} {ops : Array Oper} {its : List Item} {K : Env → Heap → Prop} {Q : Exit → Act → World → Prop} (Qat : P.follows .mixedOrders = true) (hm : Qbao P n ops fa ord its = true) (hs : Sat H g w) (he : EnvOk w g e a) (hn : a.tmps.size = n) (hd : a.defers = [])
  (hr : Qm2 P its e H K) (hQ : ∀ a' w', Post n H g w K a' w' → Q .normal a' w') : (Code.region id ops true).wp P Q a w := by
 simp only [Qbao, Bool.and_eq_true, beq_iff_eq, List.all_eq_true, List.mem_range, List.any_eq_true, Bool.not_eq_true'] at hm
 obtain ⟨⟨⟨m1, m2⟩, m3⟩, m4⟩ := hm
 let F : Fix := { P, n, ops, ms := Qbaw ops.toList [], fa, L := ord.zip its, H0 := H, g0 := g, w0 := w, K }
 have hF : FixOk F := ⟨m3, fun i hi => m4 i hi⟩
 have hmap : (ord.zip its).map Prod.snd = its := by
  rw [List.map_snd_zip]; omega
 have hst := Qaqt hs (w.drawn + 1)
 have hnl : ∀ i, ¬ dn (Array.replicate ops.size false) i := by
  intro i h
  simp only [dn, Array.getD_eq_getD_getElem?, Array.getElem?_replicate] at h
  split at h <;> simp at h
 have hI : DInv F (Array.replicate ops.size false) a { w with drawn := w.drawn + 1 } [] (ord.zip its) e H g := by
  refine ⟨rfl, by rw [hmap]; exact hr, hst, hn, hd, by simp [F], fun i hi => absurd hi (hnl i), by simp, fun y _ _ h => absurd h (hnl _), by simp, fun t => ?_⟩
  exact .inr (.inr ((he t).mono hst.le))
 obtain ⟨p2, q2, e2, H2, hI2, hs2⟩ := Qx7 hF _ _ _ _ hI
 refine wp_region_any Qat ?_
 refine Qa17 hF hQ ops.size _ a _ p2 q2 e2 H2 g hI2 hs2 ?_
 exact Nat.le_trans List.countP_le_length (by simp [F])
end Go.AE

namespace Go.AE
variable {P : Program} {H : Heap} {g : G} {w : World} {e : Env} {a : Act}
theorem Qa1t {c : Code} {Q : Exit → Act → World → Prop} (I : Nat → Act → World → Prop) (h₀ : ∃ n, I n a w)
  (round : ∀ n a w, I n a w → c.wp P (Exit.then (fun a' w' => ∃ m, m < n ∧ I m a' w') Q) a w) : (Code.loop c).wp P Q a w := by
 intro b k cs
 have key : ∀ n a w, I n a w → ∃ e a' w', Q e a' w' ∧ Arrives P (lone (b.at a (.code c :: .inLoop c :: k)) cs w) b k cs e a' w' := by
  intro n
  induction n using Nat.strongRecOn with
  | _ n ih =>
   intro a w hI
   obtain ⟨e, a₁, w₁, hq, harr⟩ := round n a w hI b (.inLoop c :: k) cs
   cases e with
   | normal =>
    obtain ⟨m, hlt, hI₁⟩ := hq
    obtain ⟨e₂, a₂, w₂, hq₂, harr₂⟩ := ih m hlt a₁ w₁ hI₁
    exact ⟨e₂, a₂, w₂, hq₂, .of_steps (Steps.trans harr (.one step_inLoop)) harr₂⟩
   | exit id => exact ⟨_, a₁, w₁, hq, .pass (x := .inLoop c) rfl (fun _ _ => .inl (by simp)) harr⟩
   | goto l => exact ⟨_, a₁, w₁, hq, .pass (x := .inLoop c) rfl (fun _ _ => .inl (by simp)) harr⟩
   | ret => exact ⟨_, a₁, w₁, hq, .pass (x := .inLoop c) rfl (fun _ _ => .inl (by simp)) harr⟩
   | panic ch => exact ⟨_, a₁, w₁, hq, .pass (x := .inLoop c) rfl (fun _ _ => .inl (by simp)) harr⟩
   | outgrown => exact ⟨_, a₁, w₁, hq, .pass (x := .inLoop c) rfl (fun _ _ => .inl (by simp)) harr⟩
 obtain ⟨n, hn⟩ := h₀
 obtain ⟨e, a', w', hq, harr⟩ := key n a w hn
 exact ⟨e, a', w', hq, .of_steps (.one step_loop) harr⟩
def xm : Exit → Option X
 | .normal => some .nrm
 | .exit id => some (.exit id)
 | .ret => some .ret
 | _ => none
def Qa9d (n : Nat) (H : Heap) (g : G) (w : World) (Q : X → Env → Heap → Prop) (x : Exit) (a : Act) (w' : World) : Prop :=
 ∃ x', xm x = some x' ∧ Post n H g w (Q x') a w'
def mC (P : Program) (n : Nat) : Code → SC → Bool
 | c, .seq .gh s => mC P n c s
 | .skip, .skip => true
 | .region _ ops false, .reg its _ => mIts P n ops 0 its
 | .region _ ops true, .dreg fa ord its _ => Qbao P n ops fa ord its
 | .seq c d, .seq s t => mC P n c s && mC P n d t
 | .cond x c d, .cond y s t => mO y x && mC P n c s && mC P n d t
 | .block i c, .block j s => i == j && mC P n c s
 | .loop c, .loop s => mC P n c s
 | .exit i, .exit j => i == j
 | .ret, .ret => true
 | _, _ => false
theorem Qa5s {ks : List Nat} (h : EnvOk w g e a) : EnvOk w g (trim ks e) a := by
 intro t
 unfold trim
 induction ks with
 | nil => exact .unk _
 | cons k ks ih =>
  simp only [List.map_cons, lk]
  split
  ·rename_i ht; subst ht; exact h t
  ·exact ih
theorem Post.trans {n : Nat} {H' : Heap} {g' : G} {w' w'' : World} {K : Env → Heap → Prop} (h : Stp H g w H' g' w') (k : Post n H' g' w' K a w'') : Post n H g w K a w'' := by
 obtain ⟨e2, H2, g2, k1, k2, k3, k4, k5⟩ := k
 exact ⟨e2, H2, g2, k1, h.trans k2, k3, k4, k5⟩
theorem Qayu (Qat : P.follows .mixedOrders = true) {n : Nat} : ∀ (s : SC) (c : Code) (Q : X → Env → Heap → Prop) (e : Env) (H : Heap), mC P n c s = true → Qah P s Q e H →
  ∀ (g : G) (w : World) (a : Act), Sat H g w → EnvOk w g e a → a.defers = [] → a.tmps.size = n → c.wp P (Qa9d n H g w Q) a w := by
 intro s
 induction s with
 | skip =>
  intro c Q e H hm hc g w a hs he hd hn
  cases c <;> simp [mC] at hm
  exact wp_skip ⟨.nrm, rfl, e, H, g, hc, .refl hs, he, hd, hn⟩
 | reg its keep =>
  intro c Q e H hm hc g w a hs he hd hn
  cases c with
  | region id ops dr' =>
   cases dr' with
   | true => simp [mC] at hm
   | false =>
    simp only [mC] at hm
    simp only [Qah] at hc
    have hQ : ∀ a' w', Post n H g w (fun e' H' => Q .nrm (trim keep e') H') a' w' → Qa9d n H g w Q .normal a' w' := by
     rintro a' w' ⟨e2, H2, g2, k1, k2, k3, k4, k5⟩
     exact ⟨.nrm, rfl, _, H2, g2, k1, k2, Qa5s k3, k4, k5⟩
    have hl := Qaxy its 0 hm
    refine wp_region ?_
    rw [List.range_eq_range', ← hl, Nat.zero_add]
    exact Q0u hQ its 0 e H g w a hm (.refl hs) he hn hd hc
  | _ => simp [mC] at hm
 | dreg fa ord its keep =>
  intro c Q e H hm hc g w a hs he hd hn
  cases c with
  | region id ops dr' =>
   cases dr' with
   | false => simp [mC] at hm
   | true =>
    simp only [mC] at hm
    simp only [Qah] at hc
    have hQ : ∀ a' w', Post n H g w (fun e' H' => Q .nrm (trim keep e') H') a' w' → Qa9d n H g w Q .normal a' w' := by
     rintro a' w' ⟨e2, H2, g2, k1, k2, k3, k4, k5⟩
     exact ⟨.nrm, rfl, _, H2, g2, k1, k2, Qa5s k3, k4, k5⟩
    exact Qayv Qat hm hs he hn hd hc hQ
  | _ => simp [mC] at hm
 | seq s t ihs iht =>
  intro c Q e H hm hc g w a hs he hd hn
  by_cases hg : s = .gh
  ·subst hg
   have hm' : mC P n c t = true := by simpa [mC] using hm
   simp only [Qah] at hc
   obtain ⟨e1, H1, h1, h2⟩ := hc
   obtain ⟨g1, k1, k2⟩ := h1 g w (fun t => a.tmps.getD t undef) hs he
   refine wp_mono (iht c Q e1 H1 hm' h2 g1 w a k1.sat k2 hd hn) ?_
   rintro x a' w' ⟨x', q1, q2⟩
   exact ⟨x', q1, q2.trans k1⟩
  ·cases c with
   | seq c d =>
    have hm' : mC P n c s = true ∧ mC P n d t = true := by
     cases s <;> first | (exact absurd rfl hg) | simpa [mC] using hm
    simp only [Qah] at hc
    refine wp_seq (wp_mono (ihs c _ e H hm'.1 hc g w a hs he hd hn) ?_)
    rintro x a' w' ⟨x', q1, e2, H2, g2, k1, k2, k3, k4, k5⟩
    cases x with
    | normal =>
     simp only [xm, Option.some.injEq] at q1
     subst q1
     refine wp_mono (iht d Q e2 H2 hm'.2 k1 g2 w' a' k2.sat k3 k4 k5) ?_
     rintro x2 a2 w2 ⟨x2', r1, r2⟩
     exact ⟨x2', r1, r2.trans k2⟩
    | exit id =>
     simp only [xm, Option.some.injEq] at q1
     subst q1
     exact ⟨_, rfl, e2, H2, g2, k1, k2, k3, k4, k5⟩
    | ret =>
     simp only [xm, Option.some.injEq] at q1
     subst q1
     exact ⟨_, rfl, e2, H2, g2, k1, k2, k3, k4, k5⟩
    | _ => simp [xm] at q1
   | _ => cases s <;> first | (exact absurd rfl hg) | simp [mC] at hm
 | cond y s t ihs iht =>
  intro c Q e H hm hc g w a hs he hd hn
  cases c <;> simp [mC] at hm
  rename_i x c d
  obtain ⟨⟨h1, h2⟩, h3⟩ := hm
  simp only [Qah] at hc
  obtain ⟨b, k1, k2, k3⟩ := hc
  have hr := Qa87 he h1
  rw [k1] at hr
  have hb := hr.c_inv.bool_inv
  exact wp_cond_split hb (fun hbt => ihs c Q e H h2 (k2 hbt) g w a hs he hd hn) (fun hbt => iht d Q e H h3 (k3 hbt) g w a hs he hd hn)
 | block id s ih =>
  intro c Q e H hm hc g w a hs he hd hn
  cases c <;> simp [mC] at hm
  rename_i id' c
  obtain ⟨rfl, h2⟩ := hm
  simp only [Qah] at hc
  refine wp_block (wp_mono (ih c _ e H h2 hc g w a hs he hd hn) ?_)
  rintro x a' w' ⟨x', q1, e2, H2, g2, k1, k2⟩
  cases x with
  | normal =>
   simp only [xm, Option.some.injEq] at q1
   subst q1
   exact ⟨.nrm, rfl, e2, H2, g2, k1, k2⟩
  | exit id2 =>
   simp only [xm, Option.some.injEq] at q1
   subst q1
   simp only [X.inBlock] at k1
   simp only [Exit.inBlock]
   split
   ·rename_i h; subst h; rw [if_pos rfl] at k1; exact ⟨.nrm, rfl, e2, H2, g2, k1, k2⟩
   ·rename_i h; rw [if_neg h] at k1; exact ⟨.exit id2, rfl, e2, H2, g2, k1, k2⟩
  | ret =>
   simp only [xm, Option.some.injEq] at q1
   subst q1
   exact ⟨.ret, rfl, e2, H2, g2, k1, k2⟩
  | _ => simp [xm] at q1
 | loop s ih =>
  intro c Q e H hm hc g w a hs he hd hn
  cases c <;> simp [mC] at hm
  rename_i c
  simp only [Qah] at hc
  obtain ⟨I, ⟨m0, h0⟩, hround⟩ := hc
  refine Qa1t (fun m a' w' => Post n H g w (I m) a' w') ⟨m0, e, H, g, h0, .refl hs, he, hd, hn⟩ ?_
  rintro m a1 w1 ⟨e1, H1, g1, k1, k2, k3, k4, k5⟩
  refine wp_mono (ih c _ e1 H1 hm (hround m e1 H1 k1) g1 w1 a1 k2.sat k3 k4 k5) ?_
  rintro x a' w' ⟨x', q1, e2, H2, g2, r1, r2, r3, r4, r5⟩
  cases x with
  | normal =>
   simp only [xm, Option.some.injEq] at q1
   subst q1
   obtain ⟨m', hlt, hI⟩ := r1
   exact ⟨m', hlt, e2, H2, g2, hI, k2.trans r2, r3, r4, r5⟩
  | exit id =>
   simp only [xm, Option.some.injEq] at q1
   subst q1
   exact ⟨_, rfl, e2, H2, g2, r1, k2.trans r2, r3, r4, r5⟩
  | ret =>
   simp only [xm, Option.some.injEq] at q1
   subst q1
   exact ⟨_, rfl, e2, H2, g2, r1, k2.trans r2, r3, r4, r5⟩
  | _ => simp [xm] at q1
 | exit id =>
  intro c Q e H hm hc g w a hs he hd hn
  cases c <;> simp [mC] at hm
  subst hm
  exact wp_exit ⟨.exit _, rfl, e, H, g, hc, .refl hs, he, hd, hn⟩
 | ret =>
  intro c Q e H hm hc g w a hs he hd hn
  cases c <;> simp [mC] at hm
  exact wp_ret ⟨.ret, rfl, e, H, g, hc, .refl hs, he, hd, hn⟩
 | gh =>
  intro c Q e H hm hc g w a hs he hd hn
  cases c <;> simp [mC] at hm
def mR (P : Program) : ResultVar → RS → Bool
 | .tmp t, .tmp t' => t == t'
 | .cell t ty, .cell t' n agg => t == t' && Qa25 P ty n agg
 | _, _ => false
def mRs (P : Program) : List ResultVar → List RS → Bool
 | [], [] => true
 | x :: r, y :: s => mR P x y && mRs P r s
 | _, _ => false
def mFn (P : Program) (f : FuncId) (nargs n : Nat) (s : SC) (rs : List RS) : Bool :=
 fnOk P f && (match P.funcs[f]? with
  | some fn => (match fn.body with
   | some c => fn.ntmps == n && decide (nargs ≤ n) && mC P n c s && mRs P fn.results.toList rs
   | none => false)
  | none => false)
theorem Qbcc {n : Nat} {x : ResultVar} {y : RS} (hm : mR P x y = true) (hs : Sat H g w) (he : EnvOk w g e a) (ho : y.op.obl true e H) :
  ∃ v, (match x with
   | .tmp t => (pure (a.tmps.getD t undef) : Sem Value)
   | .cell t ty => do loadVar ty (← asAddr (a.tmps.getD t undef))).run P w = .ok v w ∧ RepV w g (y.op.val e H) v := by
 cases x with
 | tmp t =>
  cases y with
  | tmp t' =>
   simp [mR] at hm; subst hm
   have hr := Qam (x := .t t) (y := .tmp t) he (by simp [mO]) rfl ho
   exact ⟨a.tmps.getD t undef, rfl, hr⟩
  | cell => simp [mR] at hm
 | cell t ty =>
  cases y with
  | tmp => simp [mR] at hm
  | cell t' n agg =>
   simp only [mR, Bool.and_eq_true, beq_iff_eq] at hm
   obtain ⟨rfl, h2⟩ := hm
   obtain ⟨d, i, k1, k2, k3, k4, k5⟩ := Qyp h2
   obtain ⟨v, w', g', r1, r2, r3, _⟩ := s_ld (o := { dst := none, op := .load ty (.tmp t), type := 0, pos := "", after := #[], guard := none }) (x := .t t) (x' := .tmp t) rfl k1 k2 k3 k4 k5 (by simp [mO]) hs he rfl ho
   simp only [RS.op, FOp.obl] at ho
   obtain ⟨o1, o2, o3, o4, o5⟩ := ho
   have hrr := Qam (x := .t t) (y := .tmp t) he (by simp [mO]) rfl o1
   rw [Qds o2] at hrr
   obtain ⟨b, q, hv, _⟩ := Qahh hs hrr.c_inv o3
   have hv' : a.tmps.getD t undef = .pointer (some ⟨b, q, none⟩) := hv
   have hcell := Qaqe (P := P) (o := { dst := none, op := .load ty (.tmp t), type := 0, pos := "", after := #[], guard := none }) (x := .t t) (x' := .tmp t) rfl k1 k2 k3 k4 k5 (by simp [mO]) hs he rfl ⟨o1, o2, o3, o4, o5⟩
   obtain ⟨v2, q1, q2⟩ := hcell
   refine ⟨v2, ?_, q2⟩
   simp only [execOp, Instr.loadAt, Act.eval, hv', Instr.sureAddr, Sem.run_bind, Sem.run_pure, Result.andThen_ok] at q1
   simp only [hv', asAddr, Sem.run_bind, Sem.run_pure, Result.andThen_ok]
   cases hl : (loadVar ty ⟨b, q, none⟩).run P w with
   | ok u w2 => rw [hl] at q1; simp at q1; obtain ⟨rfl, rfl⟩ := q1; rfl
   | halt h w2 => rw [hl] at q1; simp at q1
def rRun (tmps : Array Value) : ResultVar → Sem Value
 | .tmp t => pure (tmps.getD t undef)
 | .cell a t => do loadVar t (← asAddr (tmps.getD a undef))
theorem Qase {P : Program} {w : World} {tmps : Array Value} : ∀ (l : List ResultVar) (vs : List Value), l.length = vs.length →
  (∀ (j : Nat) (x : ResultVar) (v : Value), l[j]? = some x → vs[j]? = some v → (rRun tmps x).run P w = .ok v w) → (l.mapM (rRun tmps)).run P w = .ok vs w := by
 intro l
 induction l with
 | nil => intro vs hl _; cases vs with
  | nil => simp
  | cons => simp at hl
 | cons x r ih =>
  intro vs hl h
  cases vs with
  | nil => simp at hl
  | cons v vs =>
   have h0 := h 0 x v rfl rfl
   have ih' := ih vs (by simpa using hl) fun j y u h1 h2 => h (j + 1) y u (by simpa using h1) (by simpa using h2)
   simp only [List.mapM_cons, Sem.run_bind, h0, Result.andThen_ok, ih', Sem.run_pure]
theorem Qbap {n : Nat} : ∀ (l : List ResultVar) (rs : List RS), mRs P l rs = true → Sat H g w → EnvOk w g e a → (∀ r ∈ rs, r.op.obl true e H) →
  ∃ vs : List Value, l.length = vs.length ∧ vs.length = rs.length ∧ (∀ (j : Nat) (x : ResultVar) (v : Value), l[j]? = some x → vs[j]? = some v → (rRun a.tmps x).run P w = .ok v w) ∧
   (∀ (j : Nat) (x : V) (u : Value), (rs.map fun r => r.op.val e H)[j]? = some x → vs[j]? = some u → RepV w g x u) := by
 intro l
 induction l with
 | nil =>
  intro rs hm hs he ho
  cases rs with
  | nil => exact ⟨[], rfl, rfl, by simp, by simp⟩
  | cons => simp [mRs] at hm
 | cons x r ih =>
  intro rs hm hs he ho
  cases rs with
  | nil => simp [mRs] at hm
  | cons y rs =>
   simp only [mRs, Bool.and_eq_true] at hm
   obtain ⟨v, h1, h2⟩ := Qbcc (n := n) hm.1 hs he (ho y (by simp))
   obtain ⟨vs, k1, k2, k3, k4⟩ := ih rs hm.2 hs he fun z hz => ho z (by simp [hz])
   refine ⟨v :: vs, by simp [k1], by simp [k2], ?_, ?_⟩
   ·intro j z u hz hu
    cases j with
    | zero =>
     simp at hz hu; subst hz; subst hu
     exact h1
    | succ j => exact k3 j z u (by simpa using hz) (by simpa using hu)
   ·intro j z u hz hu
    cases j with
    | zero =>
     simp at hz hu; subst hz; subst hu
     exact h2
    | succ j => exact k4 j z u (by simpa using hz) (by simpa using hu)
theorem Qazo {fn : Func} {rs : List RS} (hm : mRs P fn.results.toList rs = true) (hs : Sat H g w) (he : EnvOk w g e a) {K : V → Heap → Prop} (ho : Qac rs e H K) :
  ∃ v x, (results fn a.tmps).run P w = .ok v w ∧ K x H ∧ RepV w g x v := by
 obtain ⟨h1, h2⟩ := ho
 obtain ⟨vs, k1, k2, k3, k4⟩ := Qbap (n := 0) _ _ hm hs he h1
 have hr := Qase (P := P) (w := w) (tmps := a.tmps) _ _ k1 k3
 have hrun : (results fn a.tmps).run P w = .ok (if h : vs.toArray.size = 1 then vs.toArray[0] else .tuple vs.toArray) w := by
  have : results fn a.tmps = (do let vs ← fn.results.mapM (rRun a.tmps); pure (if h : vs.size = 1 then vs[0] else .tuple vs)) := by
   unfold results
   rfl
  rw [this, Array.mapM_eq_mapM_toList]
  simp only [Sem.run_bind, Sem.run_map, hr, Result.andThen_ok, Sem.run_pure]
 by_cases hl : vs.length = 1
 ·obtain ⟨v, rfl⟩ : ∃ v, vs = [v] := List.length_eq_one_iff.mp hl
  obtain ⟨r, rfl⟩ : ∃ r, rs = [r] := List.length_eq_one_iff.mp (by omega)
  exact ⟨v, _, by simpa using hrun, h2, k4 0 _ v (by simp) rfl⟩
 ·have hsz : ¬ vs.toArray.size = 1 := by simpa using hl
  rw [dif_neg hsz] at hrun
  refine ⟨_, .tup (rs.map fun r => r.op.val e H), hrun, ?_, .tup _ _ (by simp [k2]) k4⟩
  split at h2
  ·rename_i r; simp at k2; omega
  ·exact h2
def Qz (rs : List RS) (K : V → Heap → Prop) : X → Env → Heap → Prop
 | .nrm, e, H => Qac rs e H K
 | .ret, e, H => Qac rs e H K
 | .exit _, _, _ => False
theorem Qbbm : ∀ (args : List V) (i t : Nat), lk t (zipE i args) = if i ≤ t then args.getD (t - i) .unk else .unk := by
 intro args
 induction args with
 | nil => intro i t; simp [zipE, lk]
 | cons v r ih =>
  intro i t
  simp only [zipE, lk, ih]
  split
  ·rename_i h; subst h; simp
  ·rename_i h
   split
   ·rw [if_pos (by omega)]
    have : t - i = (t - (i + 1)) + 1 := by omega
    rw [this]; simp
   ·rw [if_neg (by omega)]
theorem Qb (Qat : P.follows .mixedOrders = true) {f n : Nat} {s : SC} {rs : List RS} {args : List V} {H : Heap} {K : V → Heap → Prop}
  (hm : mFn P f args.length n s rs = true) (hc : Qah P s (Qz rs K) (zipE 0 args) H) : Qp P f args H K := by
 simp only [mFn, Bool.and_eq_true] at hm
 obtain ⟨hok, hm⟩ := hm
 refine ⟨hok, ?_⟩
 intro g w vs hs hl hv
 cases hf : P.funcs[f]? with
 | none => rw [hf] at hm; simp at hm
 | some fn =>
  rw [hf] at hm
  simp only at hm
  cases hb : fn.body with
  | none => rw [hb] at hm; simp at hm
  | some c =>
   rw [hb] at hm
   simp only [Bool.and_eq_true, beq_iff_eq, decide_eq_true_eq] at hm
   obtain ⟨⟨⟨h1, h2⟩, h3⟩, h4⟩ := hm
   refine calls_of_wp hf hb ?_
   have he : EnvOk w g (zipE 0 args) { tmps := vs.toArray ++ Array.replicate (fn.ntmps - vs.toArray.size) undef, defers := [] } := by
    intro t
    rw [Qbbm, if_pos (Nat.zero_le _), Nat.sub_zero]
    by_cases ht : t < args.length
    ·have ht' : t < vs.length := by omega
     have hg : (vs.toArray ++ Array.replicate (fn.ntmps - vs.toArray.size) undef).getD t undef = vs[t] := by
      simp [Array.getD, ht', Array.getElem_append]
      intro h; omega
     rw [hg]
     exact hv t _ _ (by rw [List.getD_eq_getElem?_getD, List.getElem?_eq_getElem ht]; rfl) (List.getElem?_eq_getElem ht')
    ·rw [List.getD_eq_getElem?_getD, List.getElem?_eq_none (by omega)]
     exact .unk _
   refine wp_mono (Qayu Qat s c _ (zipE 0 args) H h3 hc g w _ hs he rfl (by simp; omega)) ?_
   rintro x a' w' ⟨x', q1, e2, H2, g2, k1, k2, k3, k4, k5⟩
   have key : Qac rs e2 H2 K → a'.defers = [] ∧ ∃ v, (results fn a'.tmps).run P w' = .ok v w' ∧ (∃ v' x H' g', Ending.returned v = .returned v' ∧ K x H' ∧ Stp H g w H' g' w' ∧ RepV w' g' x v') := by
    intro hret
    obtain ⟨v, x, r1, r2, r3⟩ := Qazo h4 k2.sat k3 hret
    exact ⟨k4, v, r1, v, x, H2, g2, rfl, r2, k2, r3⟩
   cases x with
   | normal =>
    simp only [xm, Option.some.injEq] at q1; subst q1
    exact key k1
   | ret =>
    simp only [xm, Option.some.injEq] at q1; subst q1
    exact key k1
   | exit id =>
    simp only [xm, Option.some.injEq] at q1; subst q1
    exact k1.elim
   | _ => simp [xm] at q1
end Go.AE

namespace Go.AE
variable {P : Program} {H : Heap} {e : Env}
def X.sq (P : Program) (b : SC) (Q : X → Env → Heap → Prop) : X → Env → Heap → Prop := X.next (Qah P b Q) Q
theorem Qbcv {b : SC} {Q : X → Env → Heap → Prop} : X.sq P b Q .nrm e H = Qah P b Q e H := rfl
theorem Qbcw {b : SC} {Q : X → Env → Heap → Prop} : X.sq P b Q .ret e H = Q .ret e H := rfl
theorem Qba9 {b : SC} {Q : X → Env → Heap → Prop} {i : Nat} : X.sq P b Q (.exit i) e H = Q (.exit i) e H := rfl
theorem Qbb5 {i : Nat} {Q : X → Env → Heap → Prop} : X.inBlock i Q .nrm e H = Q .nrm e H := rfl
theorem Qbb6 {i : Nat} {Q : X → Env → Heap → Prop} : X.inBlock i Q .ret e H = Q .ret e H := rfl
theorem Qa93 {i : Nat} {Q : X → Env → Heap → Prop} : X.inBlock i Q (.exit i) e H = Q .nrm e H := by simp [X.inBlock]
theorem Qa6c {i j : Nat} {Q : X → Env → Heap → Prop} (h : (j == i) = false) : X.inBlock i Q (.exit j) e H = Q (.exit j) e H := by
 have : j ≠ i := by simpa using h
 simp [X.inBlock, this]
theorem Qh {a b : SC} {Q : X → Env → Heap → Prop} (h : Qah P a (X.sq P b Q) e H) : Qah P (.seq a b) Q e H := h
theorem Qa3q {K K' : Env → Heap → Prop} {Q : X → Env → Heap → Prop} : X.next K (X.next K' Q) = X.next K Q := by
 funext x e H
 cases x <;> rfl
theorem Q4 {a b c : SC} {Q : X → Env → Heap → Prop} (h : Qah P (.seq a (.seq b c)) Q e H) : Qah P (.seq (.seq a b) c) Q e H := by
 simp only [Qah] at h ⊢
 rw [Qa3q]; exact h
theorem Qq {its : List Item} {keep : List Nat} {Q : X → Env → Heap → Prop} (h : regT P its e H fun e' H' => Q .nrm (trim keep e') H') : Qah P (.reg its keep) Q e H := h
theorem Qbw {fa : Nat} {ord : List Nat} {its : List Item} {keep : List Nat} {Q : X → Env → Heap → Prop} (h : Qm2 P its e H fun e' H' => Q .nrm (trim keep e') H') : Qah P (.dreg fa ord its keep) Q e H := h
theorem Qa {its : List Item} {keep : List Nat} {b : SC} {Q : X → Env → Heap → Prop} (h : regT P its e H fun e' H' => Qah P b Q (trim keep e') H') : Qah P (.seq (.reg its keep) b) Q e H := h
theorem Qan {fa : Nat} {ord : List Nat} {its : List Item} {keep : List Nat} {b : SC} {Q : X → Env → Heap → Prop} (h : Qm2 P its e H fun e' H' => Qah P b Q (trim keep e') H') : Qah P (.seq (.dreg fa ord its keep) b) Q e H := h
theorem Qd {t : Opd} {a b : SC} {Q : X → Env → Heap → Prop} {c : Bool} (hc : t.raw e = .c (.bool c)) (h1 : c = true → Qah P a Q e H) (h2 : c = false → Qah P b Q e H) : Qah P (.cond t a b) Q e H := ⟨c, hc, h1, h2⟩
theorem Qc {i : Nat} {a : SC} {Q : X → Env → Heap → Prop} (h : Qah P a (X.inBlock i Q) e H) : Qah P (.block i a) Q e H := h
theorem Qt {i : Nat} {Q : X → Env → Heap → Prop} (h : Q (.exit i) e H) : Qah P (.exit i) Q e H := h
theorem Qj {Q : X → Env → Heap → Prop} (h : Q .ret e H) : Qah P .ret Q e H := h
theorem Qf {Q : X → Env → Heap → Prop} (h : Q .nrm e H) : Qah P .skip Q e H := h
theorem Qu {a : SC} {Q : X → Env → Heap → Prop} (I : Nat → Env → Heap → Prop) (n : Nat) (h0 : I n e H)
  (h : ∀ n e1 H1, I n e1 H1 → Qah P a (X.next (fun e2 H2 => ∃ m, m < n ∧ I m e2 H2) Q) e1 H1) : Qah P (.loop a) Q e H := ⟨I, ⟨n, h0⟩, h⟩
theorem Qa58 {e : Env} : gdO e none = True := rfl
theorem Qa57 {e : Env} : gdB e none = true := rfl
theorem Qa59 {p : Bool} {v : V} : gdV none p v = v := rfl
theorem Qa6a {p : Bool} {v : V} {x : Nat × Bool} : gdV (some x) p v = .gd p v := rfl
theorem Qa8w {e : Env} : trim [] e = [] := rfl
theorem Qa5r {k : Nat} {ks : List Nat} {e : Env} : trim (k :: ks) e = (k, lk k e) :: trim ks e := rfl
theorem Qa8x {a : Prop} : (true = true → a) = a := by simp
theorem Qa2d {a : Prop} : (false = true → a) = True := by simp
theorem Qa5t {a : Prop} : (true = false → a) = True := by simp
theorem Qay0 {a : Prop} : (false = false → a) = a := by simp
theorem Qbc4 {a : Prop} : (a ∧ True) = a := by simp
theorem Qbdx {a : Prop} : (True ∧ a) = a := by simp
theorem Qbdy {a : Prop} : (True → a) = a := by simp
theorem Qbde {a : Prop} : (a → True) = True := by simp
theorem b_f {b : Bool} : (b == false) = !b := by cases b <;> rfl
theorem b_t {b : Bool} : (b == true) = b := by cases b <;> rfl
theorem Qa6e {a : Prop} : (a → a) = True := by simp
theorem Qa2h {a b : Prop} : (a → b → a) = True := propext ⟨fun _ => trivial, fun _ h _ => h⟩
theorem Qa2i {a b : Prop} : (a → a ∧ b) = (a → b) := propext ⟨fun h x => (h x).2, fun h x => ⟨x, h x⟩⟩
theorem Qa94 {a b : Prop} : (a → a → b) = (a → b) := by simp
theorem Qar4 {α : Type} {p : α → Prop} : (∀ x ∈ ([] : List α), p x) = True := by simp
def Qaqs (H : Heap) (p : C) (vs : List C) (K : V → Heap → Prop) : Prop :=
 match p with
 | .ptr l k => match H l with
  | .st cells => k + vs.length ≤ cells.length ∧ ∀ H', H' = H.set l (.st (Quh cells k vs)) → K .unk H'
  | _ => False
 | .ep (.vsl l sz st n) z i k => match H l with
  | .vec y rows => y = sz ∧ z = sz ∧ i < n ∧ st + n ≤ rows.length ∧ k + vs.length ≤ sz ∧
    ∀ H', H' = H.set l (.vec sz (rows.set (st + i) (Quh (rows.getD (st + i) []) k vs))) → K .unk H'
  | _ => False
 | _ => False
def appQ (H : Heap) (sz : Nat) (a b : C) (K : V → Heap → Prop) : Prop :=
 okSl H b ∧ b.elemSz = sz ∧ match a with
 | .sl true z rows => z = sz ∧ (rows = [] ∨ rowsOf H b ≠ []) ∧ (∀ r ∈ rows ++ rowsOf H b, noOw r = true) ∧ rows.length + lenC b ≤ LIM ∧
   ∀ l, H l = .none → ∀ H', H' = H.set l (.vec sz (rows ++ rowsOf H b)) → K (.c (.vsl l sz 0 (rows.length + lenC b))) H'
 | .vsl l z st n => match H l with
  | .vec y rows => z = sz ∧ y = sz ∧ st + n ≤ rows.length ∧ (∀ r ∈ rowsOf H b, noOw r = true) ∧ n + lenC b ≤ LIM ∧
    ∀ l', (H.set l .none) l' = .none → ∀ H', H' = (H.set l .none).set l' (.vec sz ((rows.drop st).take n ++ rowsOf H b)) →
     K (.c (.vsl l' sz 0 (n + lenC b))) H'
  | _ => False
 | _ => False
def updQ (H : Heap) (tag : Nat) (m k : C) (v : V) (K : V → Heap → Prop) : Prop :=
 match m with
 | .mp l => match H l with
  | .map n es => Qsj tag k es ∧ es.length + 1 ≤ LIM ∧ ∀ H', H' = H.set l (.map (n + 1) (updE k v es)) → K .unk H'
  | _ => False
 | _ => False
def delQ (H : Heap) (tag : Nat) (m k : C) (K : V → Heap → Prop) : Prop :=
 match m with
 | .mp l => match H l with
  | .map n es => Qsj tag k es ∧ ∀ H', H' = H.set l (.map (n + 1) (delE k es)) → K .unk H'
  | _ => False
 | .mnil => Qsj tag k [] ∧ K .unk H
 | _ => False
theorem Qa4 {α : Type} {a : α} {p : α → Prop} : (∀ x, x = a → p x) = p a := propext ⟨fun h => h a rfl, fun h x hx => hx ▸ h⟩
section
variable {p : Bool} {K : V → Heap → Prop}
theorem Qa5n {a : C} {vs : List C} : Qacu H a vs K = Qaqs H a vs K := by
 cases a with
 | ptr l k => simp only [Qacu, Qaqs]; cases hh : H l <;> simp only [hh, Qa4]
 | ep s z i k =>
  cases s with
  | vsl l sz st n => simp only [Qacu, Qaqs]; cases hh : H l <;> simp only [hh, Qa4]
  | _ => rfl
 | _ => rfl
theorem Qa9i {sz : Nat} {a b : C} : appT H sz a b K = appQ H sz a b K := by
 unfold appT appQ
 refine congrArg (And _) (congrArg (And _) ?_)
 cases a with
 | sl fl z rows => cases fl <;> simp only [Qa4]
 | vsl l z st n => simp only []; cases hh : H l <;> simp only [hh, Qa4]
 | _ => rfl
theorem Qbbg {tag : Nat} {m k : C} {v : V} : updT H tag m k v K = updQ H tag m k v K := by
 cases m with
 | mp l => simp only [updT, updQ]; cases hh : H l <;> simp only [hh, Qa4]
 | _ => rfl
theorem Qa9o {tag : Nat} {m k : C} : delT H tag m k K = delQ H tag m k K := by
 cases m with
 | mp l => simp only [delT, delQ]; cases hh : H l <;> simp only [hh, Qa4]
 | _ => rfl
theorem Qa19 {cells : List C} : (EOp.alloc cells).eff P p e H K = ∀ l, H l = .none → ∀ H', H' = H.set l (.st cells) → K (.c (.ptr l 0)) H' := by simp only [EOp.eff, Qa4]
theorem Qa51 {a : Opd} : (EOp.boxm a).eff P p e H K = (a.fine p e ∧ (a.v e).cells ≠ [] ∧ ∀ l, H l = .none → ∀ H', H' = H.set l (.st (a.v e).cells) → K (.c (.ptr l 0)) H') := by simp only [EOp.eff, Qa4]
theorem Qa9z {n : Nat} {a v : Opd} : (EOp.sto n a v).eff P p e H K = (a.fine p e ∧ v.fine p e ∧ (a.v e).isC ∧ (v.v e).cells.length = n ∧ 0 < n ∧ Qaqs H (a.v e).c1 (v.v e).cells K) := by simp only [EOp.eff, Qa5n]
theorem Qa9s {sz : Nat} {a b : Opd} : (EOp.app sz a b).eff P p e H K = (a.fine p e ∧ b.fine p e ∧ (a.v e).isC ∧ (b.v e).isC ∧ appQ H sz (a.v e).c1 (b.v e).c1 K) := by simp only [EOp.eff, Qa9i]
theorem Qa9w {sz : Nat} {zero : List C} {n : Opd} : (EOp.mks sz zero n).eff P p e H K = (n.fine p e ∧ Qyo (n.v e) ∧ 0 ≤ Qad (n.v e) ∧ Qad (n.v e) ≤ LIM ∧
   ∀ l, H l = .none → ∀ H', H' = H.set l (.vec sz (List.replicate (Qad (n.v e)).toNat zero)) → K (.c (.vsl l sz 0 (Qad (n.v e)).toNat)) H') := by simp only [EOp.eff, Qa4]
theorem Qa9v : EOp.mkm.eff P p e H K = ∀ l, H l = .none → ∀ H', H' = H.set l (.map 0 []) → K (.c (.mp l)) H' := by simp only [EOp.eff, Qa4]
theorem Qa90 {tag : Nat} {m k v : Opd} : (EOp.upd tag m k v).eff P p e H K = (m.fine p e ∧ k.fine p e ∧ v.fine p e ∧ (m.v e).isC ∧ (k.v e).isC ∧ (v.v e).cells ≠ [] ∧ updQ H tag (m.v e).c1 (k.v e).c1 (v.v e) K) := by simp only [EOp.eff, Qbbg]
theorem Qa9t {tag : Nat} {m k : Opd} : (EOp.del tag m k).eff P p e H K = (m.fine p e ∧ k.fine p e ∧ (m.v e).isC ∧ (k.v e).isC ∧ delQ H tag (m.v e).c1 (k.v e).c1 K) := by simp only [EOp.eff, Qa9o]
theorem Qa54 {m : Opd} : (EOp.clrm m).eff P p e H K = (m.fine p e ∧ match m.v e with
  | .c (.mp l) => match H l with
   | .map n _ => ∀ H', H' = H.set l (.map (n + 1) []) → K .unk H'
   | _ => False
  | _ => False) := by
 simp only [EOp.eff]
 refine congrArg (And _) ?_
 cases m.v e with
 | c x => cases x with
  | mp l => simp only []; cases hh : H l <;> simp only [hh, Qa4]
  | _ => rfl
 | _ => rfl
theorem Qa55 {sz : Nat} {zero : List C} {m : Opd} : (EOp.clrs sz zero m).eff P p e H K = (m.fine p e ∧ match m.v e with
  | .c (.vsl l z st n) => z = sz ∧ match H l with
   | .vec y rows => y = sz ∧ st + n ≤ rows.length ∧ ∀ H', H' = H.set l (.vec sz (rows.take st ++ List.replicate n zero ++ rows.drop (st + n))) → K .unk H'
   | _ => False
  | _ => False) := by
 simp only [EOp.eff]
 refine congrArg (And _) ?_
 cases m.v e with
 | c x => cases x with
  | vsl l z st n => simp only []; refine congrArg (And _) ?_; cases hh : H l <;> simp only [hh, Qa4]
  | _ => rfl
 | _ => rfl
theorem Qa53 {f : Nat} {args : List Opd} : (EOp.call f args).eff P p e H K = ((∀ x ∈ args, x.fine p e) ∧ Qp P f (args.map fun x => x.v e) H K) := rfl
theorem Qa2a {f : Opd} {args : List Opd} : (EOp.callv f args).eff P p e H K = (f.fine p e ∧ (∀ x ∈ args, x.fine p e) ∧ match f.v e with
  | .c (.fn n caps) => Qp P n ((args.map fun x => x.v e) ++ caps.map .c) H K
  | _ => False) := rfl
theorem Qa9y {m : Opd} : (EOp.rng m).eff P p e H K = (m.fine p e ∧ match m.v e with
  | .c (.mp l) => match H l with
   | .map n es => es.Nodup ∧ ∀ i, H i = .none → ∀ H', H' = H.set i (.iter (some (l, n)) es none) → K (.c (.itr i)) H'
   | _ => False
  | .c .mnil => ∀ i, H i = .none → ∀ H', H' = H.set i (.iter none [] none) → K (.c (.itr i)) H'
  | _ => False) := by
 simp only [EOp.eff]
 refine congrArg (And _) ?_
 cases m.v e with
 | c x => cases x with
  | mp l => simp only []; cases hh : H l <;> simp only [hh, Qa4]
  | mnil => simp only [Qa4]
  | _ => rfl
 | _ => rfl
theorem Qa9x {it : Opd} : (EOp.nxt it).eff P p e H K = (it.fine p e ∧ match it.v e with
  | .c (.itr i) => match H i with
   | .iter none left _ => K (.tup [.c (.bool false)]) H
   | .iter (some (l, n)) left cur => (∃ es, H l = .map n es) ∧ (left = [] → K (.tup [.c (.bool false)]) H) ∧
     ∀ x left', x ∈ left → (∀ y, y ∈ left' ↔ y ∈ left ∧ y ≠ x) → left'.Nodup → left'.length + 1 = left.length →
      ∀ H', H' = H.set i (.iter (some (l, n)) left' (some x)) → K (.tup [.c (.bool true), .c x.1, x.2]) H'
   | _ => False
  | _ => False) := by
 simp only [EOp.eff]
 refine congrArg (And _) ?_
 cases it.v e with
 | c x => cases x with
  | itr i =>
   simp only []
   cases hh : H i with
   | iter m left cur => cases m with
    | none => rfl
    | some y => simp only [Qa4]
   | _ => rfl
  | _ => rfl
 | _ => rfl
theorem Qa9u {it : Opd} : (EOp.ent it).eff P p e H K = (it.fine p e ∧ match it.v e with
  | .c (.itr i) => match H i with
   | .iter (some (l, n)) left (some x) => (∃ es, H l = .map n es) ∧ K (.tup [.c x.1, x.2]) H
   | _ => False
  | _ => False) := rfl
theorem Qa52 {sz : Nat} {parts : List Opd} : (EOp.bslm sz parts).eff P p e H K = ((∀ x ∈ parts, x.fine p e ∧ (x.v e).cells.length = sz) ∧ ∀ l, H l = .none → ∀ H', H' = H.set l (.vec sz (parts.map fun x => (x.v e).cells)) → K (.c (.vsl l sz 0 parts.length)) H') := by simp only [EOp.eff, Qa4]
theorem Qa56 {a : Opd} : (EOp.nilq a).eff P p e H K = (a.fine p e ∧ match a.v e with
  | .c (.sl _ _ rows) => ∀ b : Bool, (b = true → rows = []) → K (.c (.bool b)) H
  | _ => False) := rfl
end
theorem Qa6k {k : IntKind} {n : Int} : (C.int k n).isOw = false := rfl
theorem Qa2l {b : Bool} : (C.bool b).isOw = false := rfl
theorem Qa6n {s : List UInt8} : (C.str s).isOw = false := rfl
theorem Qbab {f : Bool} {sz : Nat} {r : List (List C)} : (C.sl f sz r).isOw = false := rfl
theorem Qbaa {c : List C} : (C.pp c).isOw = false := rfl
theorem Qa96 {c : C} {a i k : Nat} : (C.ep c a i k).isOw = false := rfl
theorem Qa2o : C.pnil.isOw = false := rfl
theorem Qa6m {l k : Nat} : (C.ptr l k).isOw = false := rfl
theorem Qbq {l a b c : Nat} : (C.vsl l a b c).isOw = false := rfl
theorem Qa98 {l : Nat} : (C.mp l).isOw = false := rfl
theorem Qa2n : C.mnil.isOw = false := rfl
theorem Qa97 {f : Nat} {c : List C} : (C.fn f c).isOw = false := rfl
theorem Qa2m : C.fnil.isOw = false := rfl
theorem Qa6l {l : Nat} : (C.itr l).isOw = false := rfl
theorem Qa6o : C.unk.isOw = false := rfl
theorem Qa99 {sz : Nat} {r : List (List C)} : (C.ow sz r).isOw = true := rfl
theorem Qbaj {f : Bool} {sz : Nat} {r : List (List C)} : lenC (.sl f sz r) = r.length := rfl
theorem Qa64 {l a b c : Nat} : lenC (.vsl l a b c) = c := rfl
theorem Qa2b {f : Bool} {sz : Nat} {r : List (List C)} : (C.sl f sz r).elemSz = sz := rfl
theorem Qayy {l a b c : Nat} : (C.vsl l a b c).elemSz = a := rfl
theorem Qa32 {f : Bool} {sz : Nat} {r : List (List C)} : rowsOf H (.sl f sz r) = r := rfl
theorem Qazs {l a st n : Nat} : rowsOf H (.vsl l a st n) = match H l with
  | .vec _ rows => (rows.drop st).take n
  | _ => [] := rfl
theorem Qbax {f : Bool} {sz : Nat} {r : List (List C)} : okSl H (.sl f sz r) = True := rfl
theorem Qa7t {l sz st n : Nat} : okSl H (.vsl l sz st n) = match H l with
  | .vec z rows => z = sz ∧ st + n ≤ rows.length
  | _ => False := rfl
section
variable {K : V → Heap → Prop}
theorem Qa9j {sz z : Nat} {rows : List (List C)} {b : C} : appQ H sz (.sl true z rows) b K = (okSl H b ∧ b.elemSz = sz ∧ z = sz ∧ (rows = [] ∨ rowsOf H b ≠ []) ∧ (∀ r ∈ rows ++ rowsOf H b, noOw r = true) ∧ rows.length + lenC b ≤ LIM ∧
   ∀ l, H l = .none → ∀ H', H' = H.set l (.vec sz (rows ++ rowsOf H b)) → K (.c (.vsl l sz 0 (rows.length + lenC b))) H') := rfl
theorem Qa5w {sz l z st n : Nat} {b : C} : appQ H sz (.vsl l z st n) b K = (okSl H b ∧ b.elemSz = sz ∧ match H l with
  | .vec y rows => z = sz ∧ y = sz ∧ st + n ≤ rows.length ∧ (∀ r ∈ rowsOf H b, noOw r = true) ∧ n + lenC b ≤ LIM ∧
    ∀ l', (H.set l .none) l' = .none → ∀ H', H' = (H.set l .none).set l' (.vec sz ((rows.drop st).take n ++ rowsOf H b)) →
     K (.c (.vsl l' sz 0 (n + lenC b))) H'
  | _ => False) := rfl
end
theorem Qba8 {lo hi : Option Int} {fl : Bool} {sz : Nat} {rows : List (List C)} : sliC lo hi (.sl fl sz rows) = .sl (fl && (hi.isNone || rows.isEmpty)) sz ((rows.take (hi.getD rows.length).toNat).drop (lo.getD 0).toNat) := rfl
theorem Qa8p {lo hi : Option Int} {l sz st n : Nat} : sliC lo hi (.vsl l sz st n) = .vsl l sz (st + (lo.getD 0).toNat) ((hi.getD n).toNat - (lo.getD 0).toNat) := rfl
attribute [go_sem] b_f b_t Qa6e Qa2h Qa2i Qa94 regT Qm2 Q42 lk Qa58 Qa57 Qa59 Qa6a gdO gdB Opd.v Opd.raw Opd.fine V.bare V.fine FOp.val FOp.obl FOp.fct Qa19 Qa51 Qa9z Qa9s Qa9w Qa9v Qa90 Qa9t Qa54 Qa55 Qa53 Qa2a Qa9y Qa9x Qa9u Qa56 Qa52 Qa8w Qa5r
 V.c1 V.isC V.isAg V.cells Qha Qazk fadC binC binO Qay9 noOw Qaqs Qa9j Qa5w updQ delQ zipE Qwb Qba8 Qa8p bnds Qbax Qa7t Qbaj Qa64 Qa32 Qazs Qa2b Qayy Qa6k Qa2l Qa6n Qbab Qbaa Qa96 Qa2o Qa6m Qbq Qa98 Qa2n Qa97 Qa2m Qa6l Qa6o Qa99 Qyo Qa6i Qad Qa7w Qa8x Qa2d Qa5t Qay0 Qbc4 Qbdx Qbdy Qbde
 Qbcv Qbcw Qba9 Qbb5 Qbb6 Qa93 List.map_cons List.map_nil Quh List.take_succ_cons List.take_zero List.take_nil List.drop_succ_cons List.drop_zero List.drop_nil
 List.length_cons List.length_nil List.all_cons List.all_nil List.headD_cons Bool.not_false Bool.not_true Bool.and_true Bool.true_and Bool.and_false Bool.false_and and_self eq_self Bool.false_eq_true List.cons_append List.nil_append Nat.zero_le Nat.le_refl not_true_eq_false not_false_eq_true ite_true ite_false ne_eq Option.map_some Option.map_none Option.getD_some Option.getD_none Option.isNone_some Option.isNone_none List.isEmpty_nil List.isEmpty_cons Bool.or_true Bool.true_or Bool.or_false Bool.false_or optI optF Int.toNat_natCast Int.natCast_nonneg Int.add_sub_cancel List.forall_mem_cons Qar4
end Go.AE

namespace Go.AE
abbrev fI (d : Nat) (o : FOp) : Item := .f (some d) none o
abbrev eI (d : Nat) (o : EOp) : Item := .e (some d) none o
abbrev gT (d t : Nat) (o : FOp) : Item := .f (some d) (some (t, true)) o
abbrev gF (d t : Nat) (o : FOp) : Item := .f (some d) (some (t, false)) o
abbrev kI (n : Int) : Opd := .k (.c (.int .i64 n))
abbrev mJ (d a : Nat) : Item := .f (some d) none (.mv (.t a))
abbrev fJ (d n a : Nat) : Item := .f (some d) none (.fad n (.t a))
abbrev lJ (d a : Nat) : Item := .f (some d) none (.ld 1 false (.t a))
abbrev tJ (d n a : Nat) : Item := .f (some d) none (.ld n true (.t a))
abbrev nJ (d a : Nat) : Item := .f (some d) none (.len (.t a))
abbrev kJ (d a : Nat) : Item := .f (some d) none (.nck (.t a))
abbrev oJ (d a : Nat) : Item := .f (some d) none (.not (.t a))
abbrev iJ (d n a b : Nat) : Item := .f (some d) none (.iad n (.t a) (.t b))
abbrev bJ (d : Nat) (o : BinOp) (a b : Nat) : Item := .f (some d) none (.bin 0 o (.t a) (.t b))
abbrev cJ (d : Nat) (o : BinOp) (a : Nat) (n : Int) : Item := .f (some d) none (.bin 0 o (.t a) (.k (.c (.int .i64 n))))
abbrev gTm (d g a : Nat) : Item := .f (some d) (some (g, true)) (.mv (.t a))
abbrev gFm (d g a : Nat) : Item := .f (some d) (some (g, false)) (.mv (.t a))
abbrev gTf (d g n a : Nat) : Item := .f (some d) (some (g, true)) (.fad n (.t a))
abbrev gFf (d g n a : Nat) : Item := .f (some d) (some (g, false)) (.fad n (.t a))
abbrev gTl (d g a : Nat) : Item := .f (some d) (some (g, true)) (.ld 1 false (.t a))
abbrev gFl (d g a : Nat) : Item := .f (some d) (some (g, false)) (.ld 1 false (.t a))
abbrev aJ (d f : Nat) (l : List Opd) : Item := .e (some d) none (.call f l)
theorem Qbcy : Int.toNat 0 = 0 := rfl
theorem Qbcz : Int.toNat 1 = 1 := rfl
theorem Qbbd : Int.toNat 2000 = 2000 := rfl
attribute [go_sem] mJ fJ lJ tJ nJ kJ oJ iJ bJ cJ gTm gFm gTf gFf gTl gFl aJ fI eI gT gF kI false_implies Qbcy Qbcz Qbbd
end Go.AE

namespace Go.AE
variable {P : Program} {H : Heap} {g : G} {w : World} {e : Env}
def Obj.used : Obj → Bool
 | .none => false
 | _ => true
def Heap.frz (H : Heap) (S : Nat → Bool) : Heap := fun l => if S l then .none else H l
def G.frz (g : G) (H : Heap) (S : Nat → Bool) : G :=
 { g with
  per := fun b => g.per b || (match g.own b with
   | some (l, _) => S l && (H l).used
   | none => false)
  own := fun b => match g.own b with
   | some (l, p) => if S l && (H l).used then none else some (l, p)
   | none => none }
theorem Qa85 (H : Heap) (S : Nat → Bool) (g : G) (w : World) : Le g w (g.frz H S) w :=
 ⟨fun b h => ⟨by simp [G.frz, h], rfl⟩, fun _ _ h => h, Nat.le_refl _, fun _ _ _ h => h, rfl, rfl, rfl⟩
theorem Qoi {S : Nat → Bool} {m : Nat} (hm : ¬ (S m = true ∧ (H m).used = true)) : Qx6 g w (g.frz H S) w m := by
 intro b q hb
 refine ⟨?_, rfl⟩
 have : ¬ (S m && (H m).used) = true := by simpa using hm
 simp only [G.frz, hb]
 rw [if_neg this]
theorem Qa5o (hs : Sat H g w) (S : Nat → Bool) : Stp H g w (H.frz S) (g.frz H S) w := by
 have hle := Qa85 H S g w
 refine ⟨hle, fun m hm hn => ?_, ⟨fun b hb => ?_, hs.names, fun b x hb => ?_, fun b m p hb => ?_, fun m => ?_⟩⟩
 ·refine ⟨by simp only [Heap.frz, hn]; split <;> rfl, ?_⟩
  exact Qoi (by rw [hn]; simp [Obj.used])
 ·obtain ⟨h1, h2⟩ := hs.fresh b hb
  simp [G.frz, h1, h2]
 ·have hb' : (match g.own b with
   | some (l, p) => if S l && (H l).used then none else some (l, p)
   | none => none) = some x := hb
  show (g.per b || (match g.own b with
   | some (l, _) => S l && (H l).used
   | none => false)) = false
  cases ho : g.own b with
  | none => rw [ho] at hb'; simp at hb'
  | some y =>
   obtain ⟨l, p⟩ := y
   rw [ho] at hb'
   simp only at hb' ⊢
   have := hs.excl b _ ho
   by_cases hx : (S l && (H l).used) = true
   ·rw [if_pos hx] at hb'; simp at hb'
   ·simp [this, hx]
 ·have hb' : (match g.own b with
   | some (l, p) => if S l && (H l).used then none else some (l, p)
   | none => none) = some (m, p) := hb
  cases ho : g.own b with
  | none => rw [ho] at hb'; simp at hb'
  | some y =>
   obtain ⟨l, q⟩ := y
   rw [ho] at hb'
   simp only at hb'
   by_cases hx : (S l && (H l).used) = true
   ·rw [if_pos hx] at hb'; simp at hb'
   ·rw [if_neg hx] at hb'
    simp at hb'; obtain ⟨rfl, rfl⟩ := hb'
    exact hs.named b _ _ ho
 ·by_cases hS : S m = true
  ·simp [Heap.frz, hS, SatObj]
  ·have hH' : H.frz S m = H m := by simp [Heap.frz, hS]
   have hk : Qx6 g w (g.frz H S) w m := Qoi (by simp [hS])
   refine SatObj.keep (H' := H.frz S) hs hle hk hH' fun m' v left cur hc v' es hv => ?_
   by_cases hS' : S m' = true
   ·simp [Heap.frz, hS'] at hv
   ·have : H.frz S m' = H m' := by simp [Heap.frz, hS']
    rw [this] at hv
    exact .inl ⟨hv, Qoi (by simp [hS'])⟩
inductive FrzC (H : Heap) (S : Nat → Bool) : C → C → Prop
 | same (c : C) (h : c.isOw = false) : FrzC H S c c
 | sl (fl : Bool) (sz : Nat) (rows rows' : List (List C)) (hl : rows'.length = rows.length) (hr : ∀ (i : Nat) (r r' : List C), rows[i]? = some r → rows'[i]? = some r' → r'.length = r.length)
   (hc : ∀ (i : Nat) (r r' : List C) (j : Nat) (c c' : C), rows[i]? = some r → rows'[i]? = some r' → r[j]? = some c → r'[j]? = some c' → FrzC H S c c') : FrzC H S (.sl fl sz rows) (.sl false sz rows')
 | pp (cells cells' : List C) (hl : cells'.length = cells.length) (hc : ∀ (j : Nat) (c c' : C), cells[j]? = some c → cells'[j]? = some c' → FrzC H S c c') : FrzC H S (.pp cells) (.pp cells')
 | vsl (l sz st n : Nat) (all rows rows' : List (List C)) (hS : S l = true) (hH : H l = .vec sz all) (hb : st + n ≤ all.length) (hrows : rows = (all.drop st).take n)
   (hl : rows'.length = rows.length) (hr : ∀ (i : Nat) (r r' : List C), rows[i]? = some r → rows'[i]? = some r' → r'.length = r.length)
   (hc : ∀ (i : Nat) (r r' : List C) (j : Nat) (c c' : C), rows[i]? = some r → rows'[i]? = some r' → r[j]? = some c → r'[j]? = some c' → FrzC H S c c') : FrzC H S (.vsl l sz st n) (.sl false sz rows')
 | ptr (l k : Nat) (all cells cells' : List C) (hS : S l = true) (hH : H l = .st all) (hcells : cells = all.drop k) (hl : cells'.length = cells.length)
   (hc : ∀ (j : Nat) (c c' : C), cells[j]? = some c → cells'[j]? = some c' → FrzC H S c c') : FrzC H S (.ptr l k) (.pp cells')
 | ow (sz : Nat) (rows rows' : List (List C)) (hl : rows'.length = rows.length) (hr : ∀ (i : Nat) (r r' : List C), rows[i]? = some r → rows'[i]? = some r' → r'.length = r.length)
   (hc : ∀ (i : Nat) (r r' : List C) (j : Nat) (c c' : C), rows[i]? = some r → rows'[i]? = some r' → r[j]? = some c → r'[j]? = some c' → FrzC H S c c') : FrzC H S (.ow sz rows) (.sl false sz rows')
theorem Q9 {α : Type} {l l' : List α} (h : l'.length = l.length) {i : Nat} {x : α} (hx : l'[i]? = some x) : ∃ y, l[i]? = some y := by
 have : i < l'.length := (List.getElem?_eq_some_iff.1 hx).1
 exact ⟨l[i]'(by omega), List.getElem?_eq_getElem (by omega)⟩
theorem Qarg {S : Nat → Bool} {b l : Nat} {p : List Nat} (ho : g.own b = some (l, p)) (hS : S l = true) (hu : (H l).used = true) : (g.frz H S).per b = true := by
 simp [G.frz, ho, hS, hu]
theorem Qarh (hs : Sat H g w) {S : Nat → Bool} {c c' : C} (h : FrzC H S c c') :
  (∀ v, RepC w g c v → RepC w (g.frz H S) c' v) ∧ ∀ l p v, S l = true → (H l).used = true → RepO w g l p c v → RepC w (g.frz H S) c' v := by
 have hle := Qa85 H S g w
 induction h with
 | same c h =>
  refine ⟨fun v hv => hv.mono hle, fun l p v _ _ hv => ?_⟩
  exact (hv.plain_of fun sz rows hc => by subst hc; simp [C.isOw] at h).mono hle
 | sl fl sz rows rows' hl hr hc ih =>
  have key : ∀ v, RepC w g (.sl fl sz rows) v → RepC w (g.frz H S) (.sl false sz rows') v := by
   intro v hv
   cases hv with
   | slnil _ _ ad =>
    have : rows' = [] := List.length_eq_zero_iff.1 (by simpa using hl)
    subst this; exact .slnil _ _ _
   | sl _ _ _ b off cap val h1 h2 h3 h4 h5 h6 h7 =>
    rw [← hl] at h1 h2 h3 ⊢
    refine .sl false sz rows' b off cap val h1 (by simp) h3 (hle.per b h4).1 (fun i r' hr' => ?_) (fun i r' j c' hr' hc' => ?_) (fun i r' j c' hr' hc' => ?_)
    ·obtain ⟨r, hr0⟩ := Q9 hl hr'
     rw [hr i r r' hr0 hr']; exact h5 i r hr0
    ·obtain ⟨r, hr0⟩ := Q9 hl hr'
     obtain ⟨c, hc0⟩ := Q9 (hr i r r' hr0 hr') hc'
     exact h6 i r j c hr0 hc0
    ·obtain ⟨r, hr0⟩ := Q9 hl hr'
     obtain ⟨c, hc0⟩ := Q9 (hr i r r' hr0 hr') hc'
     exact (ih i r r' j c c' hr0 hr' hc0 hc').1 _ (h7 i r j c hr0 hc0)
  exact ⟨key, fun l p v _ _ hv => key v (hv.plain_of fun _ _ hc => by simp at hc)⟩
 | pp cells cells' hl hc ih =>
  have key : ∀ v, RepC w g (.pp cells) v → RepC w (g.frz H S) (.pp cells') v := by
   intro v hv
   cases hv with
   | pp _ b off val h1 h2 h3 =>
    refine .pp cells' b off val (hle.per b h1).1 (fun j c' hc' => ?_) (fun j c' hc' => ?_)
    ·obtain ⟨c, hc0⟩ := Q9 hl hc'
     exact h2 j c hc0
    ·obtain ⟨c, hc0⟩ := Q9 hl hc'
     exact (ih j c c' hc0 hc').1 _ (h3 j c hc0)
  exact ⟨key, fun l p v _ _ hv => key v (hv.plain_of fun _ _ hc => by simp at hc)⟩
 | vsl l sz st n all rows rows' hS hH hb hrows hl hr hc ih =>
  have key : ∀ v, RepC w g (.vsl l sz st n) v → RepC w (g.frz H S) (.sl false sz rows') v := by
   intro v hv
   have hlen : rows.length = n := by rw [hrows]; simp; omega
   cases hv with
   | vslnil _ _ _ ad =>
    have : rows' = [] := List.length_eq_zero_iff.1 (by omega)
    subst this; exact .slnil _ _ _
   | vsl _ _ _ _ cap b base T m h1 h2 h3 h4 =>
    have hob := hs.objs l
    rw [hH] at hob
    obtain ⟨b', base', T', cs, val, r1, r2, r3, r4, r5, r6, r7, r8⟩ := SatVec.of hob h1
    rw [h1] at r1
    simp only [Option.some.injEq, Prod.mk.injEq, true_and] at r1
    obtain ⟨rfl, rfl⟩ := r1
    have hper := Qarg (g := g) (H := H) r2 hS (by rw [hH]; rfl)
    have hget : ∀ (i : Nat) (r : List C), rows[i]? = some r → all[st + i]? = some r := by
     intro i r hi
     rw [hrows, List.getElem?_take] at hi
     split at hi
     ·rw [List.getElem?_drop] at hi; exact hi
     ·simp at hi
    have hn : n = rows'.length := by omega
    rw [hn] at h2 ⊢
    refine .sl false sz rows' b (base + st * sz) cap (fun i j => val (st + i) j) (by omega) (by simp) h2 hper (fun i r' hr' => ?_) (fun i r' j c' hr' hc' => ?_) (fun i r' j c' hr' hc' => ?_)
    ·obtain ⟨r, hr0⟩ := Q9 hl hr'
     rw [hr i r r' hr0 hr']; exact r6 _ r (hget i r hr0)
    ·obtain ⟨r, hr0⟩ := Q9 hl hr'
     obtain ⟨c, hc0⟩ := Q9 (hr i r r' hr0 hr') hc'
     rw [Qcc r3, show base + st * sz + i * sz + j = base + (st + i) * sz + j by rw [Nat.add_mul]; omega]
     exact r7 _ r j c (hget i r hr0) hc0
    ·obtain ⟨r, hr0⟩ := Q9 hl hr'
     obtain ⟨c, hc0⟩ := Q9 (hr i r r' hr0 hr') hc'
     exact (ih i r r' j c c' hr0 hr' hc0 hc').2 l _ _ hS (by rw [hH]; rfl) (r8 _ r j c (hget i r hr0) hc0)
  exact ⟨key, fun l p v _ _ hv => key v (hv.plain_of fun _ _ hc => by simp at hc)⟩
 | ptr l k all cells cells' hS hH hcells hl hc ih =>
  have key : ∀ v, RepC w g (.ptr l k) v → RepC w (g.frz H S) (.pp cells') v := by
   intro v hv
   cases hv with
   | ptr _ _ b sz base h1 =>
    have hob := hs.objs l
    rw [hH] at hob
    obtain ⟨b', sz', T, cs, r1, r2, r3, r4, r5⟩ := hob
    rw [h1] at r1
    simp only [Option.some.injEq, Prod.mk.injEq] at r1
    obtain ⟨rfl, rfl, rfl⟩ := r1
    have hper := Qarg (g := g) (H := H) r2 hS (by rw [hH]; rfl)
    have hget : ∀ (j : Nat) (c : C), cells[j]? = some c → all[k + j]? = some c := by
     intro j c hj
     rw [hcells, List.getElem?_drop] at hj; exact hj
    have hcs : ∀ (j : Nat) (c : C), all[j]? = some c → cs[j]? = some (cs.getD j undef) := by
     intro j c hj
     have hlt : j < cs.size := by rw [r4]; exact (List.getElem?_eq_some_iff.1 hj).1
     rw [Array.getElem?_eq_getElem hlt, Array.getD_eq_getD_getElem?, Array.getElem?_eq_getElem hlt]; rfl
    refine .pp cells' b (0 + k) (fun j => cs.getD (k + j) undef) hper (fun j c' hc' => ?_) (fun j c' hc' => ?_)
    ·obtain ⟨c, hc0⟩ := Q9 hl hc'
     rw [Qcc r3, show 0 + k + j = k + j by omega]
     exact hcs _ c (hget j c hc0)
    ·obtain ⟨c, hc0⟩ := Q9 hl hc'
     exact (ih j c c' hc0 hc').2 l _ _ hS (by rw [hH]; rfl) (r5 _ c _ (hget j c hc0) (hcs _ c (hget j c hc0)))
  exact ⟨key, fun l p v _ _ hv => key v (hv.plain_of fun _ _ hc => by simp at hc)⟩
 | ow sz rows rows' hl hr hc ih =>
  refine ⟨fun v hv => (by cases hv), fun l p v hS hu hv => ?_⟩
  cases hv with
  | plain _ _ _ h => cases h
  | ownil _ _ ad =>
   have : rows' = [] := List.length_eq_zero_iff.1 (by simpa using hl)
   subst this; exact .slnil _ _ _
  | ow _ _ _ b off cap T cs val h1 h2 h3 h4 h5 h6 h7 h8 =>
   have hper := Qarg (g := g) (H := H) h3 hS hu
   rw [← hl] at h1 h2 ⊢
   refine .sl false sz rows' b off cap val h1 (by simp) h2 hper (fun i r' hr' => ?_) (fun i r' j c' hr' hc' => ?_) (fun i r' j c' hr' hc' => ?_)
   ·obtain ⟨r, hr0⟩ := Q9 hl hr'
    rw [hr i r r' hr0 hr']; exact h6 i r hr0
   ·obtain ⟨r, hr0⟩ := Q9 hl hr'
    obtain ⟨c, hc0⟩ := Q9 (hr i r r' hr0 hr') hc'
    rw [Qcc h4]; exact h7 i r j c hr0 hc0
   ·obtain ⟨r, hr0⟩ := Q9 hl hr'
    obtain ⟨c, hc0⟩ := Q9 (hr i r r' hr0 hr') hc'
    exact (ih i r r' j c c' hr0 hr' hc0 hc').2 l _ _ hS hu (h8 i r j c hr0 hc0)
inductive FrzV (H : Heap) (S : Nat → Bool) : V → V → Prop
 | c (a b : C) (h : FrzC H S a b) : FrzV H S (.c a) (.c b)
 | ag (cs cs' : List C) (hl : cs'.length = cs.length) (h : ∀ (j : Nat) (c c' : C), cs[j]? = some c → cs'[j]? = some c' → FrzC H S c c') : FrzV H S (.ag cs) (.ag cs')
 | tup (xs xs' : List V) (hl : xs'.length = xs.length) (h : ∀ (j : Nat) (x x' : V), xs[j]? = some x → xs'[j]? = some x' → FrzV H S x x') : FrzV H S (.tup xs) (.tup xs')
 | unk (x : V) : FrzV H S x .unk
theorem Qai2 (hs : Sat H g w) {S : Nat → Bool} {x x' : V} (h : FrzV H S x x') : ∀ v, RepV w g x v → RepV w (g.frz H S) x' v := by
 induction h with
 | c a b h =>
  intro v hv
  exact .c _ _ ((Qarh hs h).1 v hv.c_inv)
 | ag cs cs' hl h =>
  intro v hv
  cases hv with
  | ag _ vs h1 h2 =>
   refine .ag cs' vs (by omega) fun j c' u hc' hu => ?_
   obtain ⟨c, hc⟩ := Q9 hl hc'
   exact (Qarh hs (h j c c' hc hc')).1 u (h2 j c u hc hu)
 | tup xs xs' hl h ih =>
  intro v hv
  cases hv with
  | tup _ vs h1 h2 =>
   refine .tup xs' vs (by omega) fun j x' u hx' hu => ?_
   obtain ⟨x, hx⟩ := Q9 hl hx'
   exact ih j x x' hx hx' u (h2 j x u hx hu)
 | unk x => exact fun v _ => .unk v
theorem Qa1x {f : Nat} {args : List V} {K : V → Heap → Prop} (h : Qp P f args H fun x H' => ∃ S x', FrzV H' S x x' ∧ K x' (H'.frz S)) : Qp P f args H K := by
 refine ⟨h.1, fun g w vs hs hl hv => ?_⟩
 refine Calls.mono (h.2 g w vs hs hl hv) ?_
 rintro e w' ⟨v, x, H', g', he, ⟨S, x', hf, hk⟩, hst, hr⟩
 exact ⟨v, x', H'.frz S, g'.frz H' S, he, hk, hst.trans (Qa5o hst.sat S), Qai2 hst.sat hf v hr⟩
theorem Qayn {f : Nat} {args : List V} {K K' : V → Heap → Prop} (h : Qp P f args H K) (hk : ∀ x H', K x H' → K' x H') : Qp P f args H K' := by
 refine ⟨h.1, fun g w vs hs hl hv => ?_⟩
 refine Calls.mono (h.2 g w vs hs hl hv) ?_
 rintro e w' ⟨v, x, H', g', he, hx, hst, hr⟩
 exact ⟨v, x, H', g', he, hk x H' hx, hst, hr⟩
end Go.AE

namespace Go.AE
variable {P : Program} {H : Heap} {g : G} {w : World} {e : Env}
def FrzK (H : Heap) (S : Nat → Bool) (c c' : C) : Prop := c' = c ∨ (c.isOw = false ∧ FrzC H S c c')
inductive FrzO (H : Heap) (S : Nat → Bool) : Obj → Obj → Prop
 | same (o : Obj) : FrzO H S o o
 | st (cells cells' : List C) (hl : cells'.length = cells.length) (h : ∀ (j : Nat) (c c' : C), cells[j]? = some c → cells'[j]? = some c' → FrzK H S c c') : FrzO H S (.st cells) (.st cells')
 | vec (sz : Nat) (rows rows' : List (List C)) (hl : rows'.length = rows.length) (hr : ∀ (i : Nat) (r r' : List C), rows[i]? = some r → rows'[i]? = some r' → r'.length = r.length)
   (h : ∀ (i : Nat) (r r' : List C) (j : Nat) (c c' : C), rows[i]? = some r → rows'[i]? = some r' → r[j]? = some c → r'[j]? = some c' → FrzK H S c c') : FrzO H S (.vec sz rows) (.vec sz rows')
def FrzH (H : Heap) (S : Nat → Bool) (H' : Heap) : Prop := ∀ m, (S m = true ∧ H' m = .none) ∨ (S m = false ∧ FrzO H S (H m) (H' m))
theorem Qdq (H : Heap) (S : Nat → Bool) : FrzH H S (H.frz S) := fun m => by
 cases h : S m with
 | true => exact .inl ⟨rfl, by simp [Heap.frz, h]⟩
 | false => exact .inr ⟨rfl, by simp [Heap.frz, h]; exact .same _⟩
theorem FrzH.set {S : Nat → Bool} {H' : Heap} (h : FrzH H S H') {l : Nat} {o : Obj} (hl : S l = false) (ho : FrzO H S (H l) o) : FrzH H S (H'.set l o) := fun m => by
 by_cases hm : m = l
 ·subst hm; rw [Heap.set_same]; exact .inr ⟨hl, ho⟩
 ·rw [Heap.set_other _ _ hm]; exact h m
theorem Qaye (hs : Sat H g w) {S : Nat → Bool} {H' : Heap} (h : FrzH H S H') : Stp H g w H' (g.frz H S) w := by
 have h0 := Qa5o hs S
 have hle := h0.le
 have hkk : ∀ m, S m = false → Qx6 g w (g.frz H S) w m := fun m hm => Qoi (by simp [hm])
 have hmv : ∀ (l : Nat) (p : List Nat) (c c' : C) (v : Value), S l = false → FrzK H S c c' → RepO w g l p c v → RepO w (g.frz H S) l p c' v := by
  intro l p c c' v hl hk hr
  rcases hk with rfl | ⟨h1, h2⟩
  ·exact hr.move hle fun q b hb => ⟨(hkk l hl b _ hb).1, rfl⟩
  ·exact .plain _ _ _ _ ((Qarh hs h2).1 v (hr.plain_of fun sz rows hc => by subst hc; simp [C.isOw] at h1))
 refine ⟨hle, fun m hm hn => ?_, ⟨h0.sat.fresh, h0.sat.names, h0.sat.excl, h0.sat.named, fun m => ?_⟩⟩
 ·refine ⟨?_, Qoi (by rw [hn]; simp [Obj.used])⟩
  rcases h m with ⟨_, h1⟩ | ⟨_, h1⟩
  ·exact h1
  ·rw [hn] at h1
   generalize H' m = o at h1
   cases h1; rfl
 ·rcases h m with ⟨_, h1⟩ | ⟨hS, h1⟩
  ·rw [h1]; exact trivial
  ·have ho := hs.objs m
   generalize hA : H m = A at h1 ho
   generalize hB : H' m = B at h1
   cases h1 with
   | same =>
    have := SatObj.keep (H' := H') hs hle (hkk m hS) (hB.trans hA.symm) fun m' v left cur hc v' es hv => ?_
    ·rw [hB] at this; exact this
    ·rcases h m' with ⟨_, h2⟩ | ⟨hS', h2⟩
     ·rw [h2] at hv; simp at hv
     ·rw [hv] at h2
      generalize hA' : H m' = A' at h2
      cases h2
      exact .inl ⟨rfl, hkk m' hS'⟩
   | st cells cells' hl hc =>
    obtain ⟨b, sz, T, cs, r1, r2, r3, r4, r5⟩ := ho
    refine ⟨b, sz, T, cs, r1, (hkk m hS b _ r2).1, r3, by rw [hl]; exact r4, fun k c' v hc' hv => ?_⟩
    obtain ⟨c, hc0⟩ := Q9 hl hc'
    exact hmv _ _ c c' v hS (hc k c c' hc0 hc') (r5 k c v hc0 hv)
   | vec sz rows rows' hl hr hc =>
    rcases ho with ⟨r1, r2⟩ | ⟨b, base, T, cs, val, r1, r2, r3, r4, r5, r6, r7, r8⟩
    ·refine .inl ⟨?_, r2⟩
     subst r1; exact List.length_eq_zero_iff.1 hl
    ·refine .inr ⟨b, base, T, cs, val, r1, (hkk m hS b _ r2).1, r3, by rw [hl]; exact r4, by rw [hl]; exact r5, fun i r' hr' => ?_, fun i r' j c' hr' hc' => ?_, fun i r' j c' hr' hc' => ?_⟩
     ·obtain ⟨r, hr0⟩ := Q9 hl hr'
      rw [hr i r r' hr0 hr']; exact r6 i r hr0
     ·obtain ⟨r, hr0⟩ := Q9 hl hr'
      obtain ⟨c, hc0⟩ := Q9 (hr i r r' hr0 hr') hc'
      exact r7 i r j c hr0 hc0
     ·obtain ⟨r, hr0⟩ := Q9 hl hr'
      obtain ⟨c, hc0⟩ := Q9 (hr i r r' hr0 hr') hc'
      exact hmv _ _ c c' _ hS (hc i r r' j c c' hr0 hr' hc0 hc') (r8 i r j c hr0 hc0)
theorem Qew {f : Nat} {args : List V} {K : V → Heap → Prop} (h : Qp P f args H fun x H' => ∃ S x' H2, FrzV H' S x x' ∧ FrzH H' S H2 ∧ K x' H2) : Qp P f args H K := by
 refine ⟨h.1, fun g w vs hs hl hv => ?_⟩
 refine Calls.mono (h.2 g w vs hs hl hv) ?_
 rintro e w' ⟨v, x, H', g', he, ⟨S, x', H2, hf, hh, hk⟩, hst, hr⟩
 exact ⟨v, x', H2, g'.frz H' S, he, hk, hst.trans (Qaye hst.sat hh), Qai2 hst.sat hf v hr⟩
theorem Qr8 {e e' : Env} (S : Nat → Bool) {H2 : Heap} (h : ∀ t, FrzV H S (lk t e) (lk t e')) (hh : FrzH H S H2) : Qa9a e H e' H2 := by
 intro g w tmps hs hr
 exact ⟨g.frz H S, Qaye hs hh, fun t => Qai2 hs (h t) _ (hr t)⟩
def un (H : Heap) (m : Nat) : Bool := !(H m).used
theorem Qaxe {m : Nat} (h : H m ≠ .none) : un H m = false := by
 unfold un; cases hm : H m <;> first | rfl | exact absurd hm h
theorem Qlk {m : Nat} (h : H m = .none) : un H m = true := by simp [un, h, Obj.used]
theorem Qa2e {H' : Heap} {m : Nat} (h : H m ≠ .none) : H'.frz (un H) m = H' m := by simp [Heap.frz, Qaxe h]
def C.plain : C → Bool
 | .int _ _ | .bool _ | .str _ | .sl _ _ _ | .pp _ | .pnil | .mnil | .fnil | .unk => true
 | _ => false
theorem Qi {S : Nat → Bool} {c : C} (h : c.plain = true) : FrzC H S c c := .same c (by cases c <;> simp_all [C.plain, C.isOw])
theorem Qai3 {S : Nat → Bool} {l sz n : Nat} {rows : List (List C)} (hS : S l = true) (hH : H l = .vec sz rows) (hn : n = rows.length) (hr : ∀ r ∈ rows, ∀ c ∈ r, c.isOw = false) : FrzC H S (.vsl l sz 0 n) (.sl false sz rows) := by
 subst hn
 refine .vsl l sz 0 rows.length rows rows rows hS hH (by omega) (by simp) rfl (fun i r r' h1 h2 => by rw [h1] at h2; simp at h2; rw [h2]) (fun i r r' j c c' h1 h2 h3 h4 => ?_)
 rw [h1] at h2; simp at h2; subst h2
 rw [h3] at h4; simp at h4; subst h4
 exact .same _ (hr r (List.mem_of_getElem? h1) c (List.mem_of_getElem? h3))
theorem Q5w {S : Nat → Bool} {fl : Bool} {sz : Nat} {rows : List (List C)} (hr : ∀ r ∈ rows, ∀ c ∈ r, c.isOw = false) : FrzC H S (.sl fl sz rows) (.sl false sz rows) := by
 refine .sl fl sz rows rows rfl (fun i r r' h1 h2 => by rw [h1] at h2; simp at h2; rw [h2]) (fun i r r' j c c' h1 h2 h3 h4 => ?_)
 rw [h1] at h2; simp at h2; subst h2
 rw [h3] at h4; simp at h4; subst h4
 exact .same _ (hr r (List.mem_of_getElem? h1) c (List.mem_of_getElem? h3))
inductive FrzL (H : Heap) (S : Nat → Bool) : List C → List C → Prop
 | nil : FrzL H S [] []
 | cons {c c' : C} {l l' : List C} (h : FrzC H S c c') (t : FrzL H S l l') : FrzL H S (c :: l) (c' :: l')
theorem FrzL.spec {S : Nat → Bool} {l l' : List C} (h : FrzL H S l l') : l'.length = l.length ∧ ∀ (j : Nat) (c c' : C), l[j]? = some c → l'[j]? = some c' → FrzC H S c c' := by
 induction h with
 | nil => exact ⟨rfl, fun j c c' h => by simp at h⟩
 | cons h t ih =>
  refine ⟨by simp [ih.1], fun j c c' h1 h2 => ?_⟩
  cases j with
  | zero => simp at h1 h2; subst h1; subst h2; exact h
  | succ j => simp at h1 h2; exact ih.2 j c c' h1 h2
theorem FrzL.ag {S : Nat → Bool} {l l' : List C} (h : FrzL H S l l') : FrzV H S (.ag l) (.ag l') := .ag _ _ h.spec.1 h.spec.2
inductive FrzKL (H : Heap) (S : Nat → Bool) : List C → List C → Prop
 | nil : FrzKL H S [] []
 | same {c : C} {l l' : List C} (t : FrzKL H S l l') : FrzKL H S (c :: l) (c :: l')
 | cons {c c' : C} {l l' : List C} (h : c.isOw = false) (h' : FrzC H S c c') (t : FrzKL H S l l') : FrzKL H S (c :: l) (c' :: l')
theorem FrzKL.st {S : Nat → Bool} {l l' : List C} (h : FrzKL H S l l') : FrzO H S (.st l) (.st l') := by
 have : l'.length = l.length ∧ ∀ (j : Nat) (c c' : C), l[j]? = some c → l'[j]? = some c' → FrzK H S c c' := by
  induction h with
  | nil => exact ⟨rfl, fun j c c' h => by simp at h⟩
  | same t ih =>
   refine ⟨by simp [ih.1], fun j c c' h1 h2 => ?_⟩
   cases j with
   | zero => simp at h1 h2; subst h1; subst h2; exact .inl rfl
   | succ j => simp at h1 h2; exact ih.2 j c c' h1 h2
  | cons h h' t ih =>
   refine ⟨by simp [ih.1], fun j c c' h1 h2 => ?_⟩
   cases j with
   | zero => simp at h1 h2; subst h1; subst h2; exact .inr ⟨h, h'⟩
   | succ j => simp at h1 h2; exact ih.2 j c c' h1 h2
 exact .st _ _ this.1 this.2
end Go.AE

namespace Go.AE
variable {P : Program} {H0 H H' : Heap} {E L : List (Nat × Obj)}
structure Kn (H0 H : Heap) (E L : List (Nat × Obj)) : Prop where
 get : ∀ p ∈ E ++ L, H p.1 = p.2 ∧ p.2 ≠ .none
 ext : ∀ p ∈ E, H0 p.1 ≠ .none
 loc : ∀ p ∈ L, H0 p.1 = .none
 dE : (E.map Prod.fst).Nodup
 dL : (L.map Prod.fst).Nodup
 chg : ∀ m, H0 m ≠ .none → m ∉ E.map Prod.fst → H m = H0 m
def Upd (H H' : Heap) (U : List (Nat × Obj)) : Prop := (∀ p ∈ U, H' p.1 = p.2) ∧ ∀ m, H m ≠ .none → m ∉ U.map Prod.fst → H' m = H m
theorem Kn.start0 (H : Heap) : Kn H H [] [] := ⟨by simp, by simp, by simp, by simp, by simp, fun _ _ _ => rfl⟩
theorem Kn.start1 {l : Nat} {o : Obj} (h : H l = o) (ho : o ≠ .none) : Kn H H [(l, o)] [] :=
 ⟨by simp [h, ho], by simp [h, ho], by simp, by simp, by simp, fun _ _ _ => rfl⟩
theorem Kn.start2 {l m : Nat} {o q : Obj} (h : H l = o) (ho : o ≠ .none) (h2 : H m = q) (hq : q ≠ .none) (hn : l ≠ m) : Kn H H [(l, o), (m, q)] [] :=
 ⟨by simp [h, ho, h2, hq], by simp [h, ho, h2, hq], by simp, by simp [hn], by simp, fun _ _ _ => rfl⟩
theorem Kn.e (hk : Kn H0 H E L) (i : Nat) {l : Nat} {o : Obj} (h : E[i]? = some (l, o)) : H l = o :=
 (hk.get (l, o) (List.mem_append_left _ (List.mem_of_getElem? h))).1
theorem Kn.l (hk : Kn H0 H E L) (i : Nat) {l : Nat} {o : Obj} (h : L[i]? = some (l, o)) : H l = o :=
 (hk.get (l, o) (List.mem_append_right _ (List.mem_of_getElem? h))).1
theorem Kn.free (hk : Kn H0 H E L) (i : Nat) {l : Nat} {o : Obj} (h : L[i]? = some (l, o)) : H0 l = .none := hk.loc (l, o) (List.mem_of_getElem? h)
theorem Kn.un (hk : Kn H0 H E L) (i : Nat) {l : Nat} {o : Obj} (h : L[i]? = some (l, o)) : un H0 l = true := Qlk (hk.free i h)
theorem Kn.usedE (hk : Kn H0 H E L) (i : Nat) {l : Nat} {o : Obj} (h : E[i]? = some (l, o)) : H0 l ≠ .none := hk.ext (l, o) (List.mem_of_getElem? h)
theorem Kn.ne (hk : Kn H0 H E L) (i j : Nat) {l m : Nat} {o q : Obj} (h : E[i]? = some (l, o)) (h2 : L[j]? = some (m, q)) : l ≠ m := fun hh => by
 subst hh; exact hk.usedE i h (hk.free j h2)
theorem Qbc {L : List (Nat × Obj)} {p : Nat × Obj} (h : p ∈ L) : p.1 ∈ L.map Prod.fst := List.mem_map_of_mem h
theorem Qdu {L : List (Nat × Obj)} (hd : (L.map Prod.fst).Nodup) {i j : Nat} {p q : Nat × Obj} (hi : L[i]? = some p) (hj : L[j]? = some q) (h : p.1 = q.1) : i = j := by
 have h1 : (L.map Prod.fst)[i]? = some p.1 := by simp [hi]
 have h2 : (L.map Prod.fst)[j]? = some q.1 := by simp [hj]
 have hlt : i < (L.map Prod.fst).length := (List.getElem?_eq_some_iff.1 h1).1
 exact (List.getElem?_inj hlt hd).1 (by rw [h1, h2, h])
theorem Kn.neL (hk : Kn H0 H E L) (i j : Nat) {l m : Nat} {o q : Obj} (h : L[i]? = some (l, o)) (h2 : L[j]? = some (m, q)) (hij : i ≠ j) : l ≠ m := fun hh =>
 hij (Qdu hk.dL h h2 hh)
theorem Kn.newFree (hk : Kn H0 H E L) {x : Nat} (hx : H x = .none) : H0 x = .none ∧ x ∉ E.map Prod.fst ∧ x ∉ L.map Prod.fst := by
 have hno : ∀ p ∈ E ++ L, p.1 ≠ x := fun p hp hh => by
  obtain ⟨h1, h2⟩ := hk.get p hp
  rw [hh, hx] at h1; exact h2 h1.symm
 have hE : x ∉ E.map Prod.fst := fun h => by
  obtain ⟨p, hp, hh⟩ := List.mem_map.1 h
  exact hno p (List.mem_append_left _ hp) hh
 refine ⟨?_, hE, fun h => ?_⟩
 ·cases h0 : H0 x with
  | none => rfl
  | _ => have := hk.chg x (by rw [h0]; simp) hE; rw [hx, h0] at this; simp at this
 ·obtain ⟨p, hp, hh⟩ := List.mem_map.1 h
  exact hno p (List.mem_append_right _ hp) hh
theorem Kn.alloc (hk : Kn H0 H E L) {x : Nat} {o : Obj} (hx : H x = .none) (ho : o ≠ .none) : Kn H0 (H.set x o) E (L ++ [(x, o)]) := by
 obtain ⟨h1, h2, h3⟩ := hk.newFree hx
 refine ⟨fun p hp => ?_, hk.ext, fun p hp => ?_, hk.dE, ?_, fun m hm hn => ?_⟩
 ·rw [← List.append_assoc] at hp
  rcases List.mem_append.1 hp with hp | hp
  ·have : p.1 ≠ x := fun hh => by
    rcases List.mem_append.1 hp with hp | hp
    ·exact h2 (hh ▸ Qbc hp)
    ·exact h3 (hh ▸ Qbc hp)
   rw [Heap.set_other _ _ this]; exact hk.get p hp
  ·simp at hp; subst hp; exact ⟨Heap.set_same _ _ _, ho⟩
 ·rcases List.mem_append.1 hp with hp | hp
  ·exact hk.loc p hp
  ·simp at hp; subst hp; exact h1
 ·rw [List.map_append]
  refine List.nodup_append.2 ⟨hk.dL, by simp, fun a ha b hb => ?_⟩
  simp at hb; subst hb; exact fun hh => h3 (hh ▸ ha)
 ·have : m ≠ x := fun hh => by subst hh; exact hm h1
  rw [Heap.set_other _ _ this]; exact hk.chg m hm hn
theorem Qb2 {L : List (Nat × Obj)} {i : Nat} {x : Nat} {o o' : Obj} (h : L[i]? = some (x, o)) : (L.set i (x, o')).map Prod.fst = L.map Prod.fst := by
 rw [List.map_set]
 refine List.ext_getElem? fun j => ?_
 rw [List.getElem?_set]
 split
 ·rename_i hij
  subst hij
  have hlt := (List.getElem?_eq_some_iff.1 h).1
  rw [if_pos (by simpa using hlt)]
  simp [h]
 ·rfl
theorem Qbf {α : Type} {L : List α} {i : Nat} {x p : α} (h : p ∈ L.set i x) : p = x ∨ ∃ j, j ≠ i ∧ L[j]? = some p := by
 obtain ⟨j, hj⟩ := List.getElem?_of_mem h
 rw [List.getElem?_set] at hj
 split at hj
 ·split at hj
  ·simp at hj; exact .inl hj.symm
  ·simp at hj
 ·rename_i hn; exact .inr ⟨j, fun h => hn h.symm, hj⟩
theorem Kn.setL (hk : Kn H0 H E L) (i : Nat) {x : Nat} {o o' : Obj} (h : L[i]? = some (x, o)) (ho : o' ≠ .none) : Kn H0 (H.set x o') E (L.set i (x, o')) := by
 have hf := hk.free i h
 refine ⟨fun p hp => ?_, hk.ext, fun p hp => ?_, hk.dE, by rw [Qb2 h]; exact hk.dL, fun m hm hn => ?_⟩
 ·rcases List.mem_append.1 hp with hp | hp
  ·have : p.1 ≠ x := fun hh => hk.ext p hp (hh ▸ hf)
   rw [Heap.set_other _ _ this]; exact hk.get p (List.mem_append_left _ hp)
  ·rcases Qbf hp with rfl | ⟨j, hj, hp⟩
   ·exact ⟨Heap.set_same _ _ _, ho⟩
   ·have : p.1 ≠ x := fun hh => hj (Qdu hk.dL hp h hh)
    rw [Heap.set_other _ _ this]; exact hk.get p (List.mem_append_right _ (List.mem_of_getElem? hp))
 ·rcases Qbf hp with rfl | ⟨j, hj, hp⟩
  ·exact hf
  ·exact hk.loc p (List.mem_of_getElem? hp)
 ·have : m ≠ x := fun hh => by subst hh; exact hm hf
  rw [Heap.set_other _ _ this]; exact hk.chg m hm hn
theorem Kn.setE (hk : Kn H0 H E L) (i : Nat) {x : Nat} {o o' : Obj} (h : E[i]? = some (x, o)) (ho : o' ≠ .none) : Kn H0 (H.set x o') (E.set i (x, o')) L := by
 have hf := hk.usedE i h
 refine ⟨fun p hp => ?_, fun p hp => ?_, hk.loc, by rw [Qb2 h]; exact hk.dE, hk.dL, fun m hm hn => ?_⟩
 ·rcases List.mem_append.1 hp with hp | hp
  ·rcases Qbf hp with rfl | ⟨j, hj, hp⟩
   ·exact ⟨Heap.set_same _ _ _, ho⟩
   ·have : p.1 ≠ x := fun hh => hj (Qdu hk.dE hp h hh)
    rw [Heap.set_other _ _ this]; exact hk.get p (List.mem_append_left _ (List.mem_of_getElem? hp))
  ·have : p.1 ≠ x := fun hh => hf (hh ▸ hk.loc p hp)
   rw [Heap.set_other _ _ this]; exact hk.get p (List.mem_append_right _ hp)
 ·rcases Qbf hp with rfl | ⟨j, hj, hp⟩
  ·exact hf
  ·exact hk.ext p (List.mem_of_getElem? hp)
 ·rw [Qb2 h] at hn
  have : m ≠ x := fun hh => by subst hh; exact hn (Qbc (p := (m, o)) (List.mem_of_getElem? h))
  rw [Heap.set_other _ _ this]; exact hk.chg m hm hn
theorem Kn.app (hk : Kn H0 H E L) (i : Nat) {y y' : Nat} {o o' : Obj} (h : L[i]? = some (y, o)) (hy : (H.set y .none) y' = .none) (ho : o' ≠ .none) :
  Kn H0 ((H.set y .none).set y' o') E (L.set i (y', o')) := by
 have hf := hk.free i h
 have hyf : H0 y' = .none ∧ y' ∉ E.map Prod.fst ∧ ∀ (j : Nat) (p : Nat × Obj), j ≠ i → L[j]? = some p → p.1 ≠ y' := by
  by_cases hyy : y' = y
  ·subst hyy
   refine ⟨hf, fun hh => ?_, fun j p hj hp hh => hj (Qdu hk.dL hp h hh)⟩
   obtain ⟨p, hp, hh⟩ := List.mem_map.1 hh
   exact hk.ext p hp (hh ▸ hf)
  ·rw [Heap.set_other _ _ hyy] at hy
   obtain ⟨h1, h2, h3⟩ := hk.newFree hy
   exact ⟨h1, h2, fun j p hj hp hh => h3 (hh ▸ Qbc (List.mem_of_getElem? hp))⟩
 obtain ⟨h1, h2, h3⟩ := hyf
 refine ⟨fun p hp => ?_, hk.ext, fun p hp => ?_, hk.dE, ?_, fun m hm hn => ?_⟩
 ·rcases List.mem_append.1 hp with hp | hp
  ·have a1 : p.1 ≠ y := fun hh => hk.ext p hp (hh ▸ hf)
   have a2 : p.1 ≠ y' := fun hh => hk.ext p hp (hh ▸ h1)
   rw [Heap.set_other _ _ a2, Heap.set_other _ _ a1]; exact hk.get p (List.mem_append_left _ hp)
  ·rcases Qbf hp with rfl | ⟨j, hj, hp⟩
   ·exact ⟨Heap.set_same _ _ _, ho⟩
   ·have a1 : p.1 ≠ y := fun hh => hj (Qdu hk.dL hp h hh)
    rw [Heap.set_other _ _ (h3 j p hj hp), Heap.set_other _ _ a1]; exact hk.get p (List.mem_append_right _ (List.mem_of_getElem? hp))
 ·rcases Qbf hp with rfl | ⟨j, hj, hp⟩
  ·exact h1
  ·exact hk.loc p (List.mem_of_getElem? hp)
 ·rw [List.map_set]
  refine List.pairwise_iff_getElem.2 fun a b ha hb hab => ?_
  rw [List.length_set, List.length_map] at ha hb
  have gl : ∀ (j : Nat) (hj : j < L.length), j ≠ i → L[j].1 ≠ y' := fun j hj hji => h3 j L[j] hji (List.getElem?_eq_getElem hj)
  have hd := List.pairwise_iff_getElem.1 hk.dL a b (by simpa using ha) (by simpa using hb) hab
  simp only [List.getElem_set, List.getElem_map] at hd ⊢
  by_cases e1 : i = a
  ·subst e1
   rw [if_pos rfl, if_neg (by omega)]
   exact fun hh => gl b hb (by omega) hh.symm
  ·rw [if_neg e1]
   by_cases e2 : i = b
   ·subst e2; rw [if_pos rfl]; exact gl a ha (by omega)
   ·rw [if_neg e2]; exact hd
 ·have a1 : m ≠ y := fun hh => by subst hh; exact hm hf
  have a2 : m ≠ y' := fun hh => by subst hh; exact hm h1
  rw [Heap.set_other _ _ a2, Heap.set_other _ _ a1]; exact hk.chg m hm hn
theorem Kn.callg (hk : Kn H0 H E L) {U E2 L2 : List (Nat × Obj)} (hu : Upd H H' U) (hE : E2.map Prod.fst = E.map Prod.fst) (hL : L2.map Prod.fst = L.map Prod.fst)
  (h : ∀ p ∈ E2 ++ L2, p.2 ≠ .none ∧ (p ∈ U ∨ (p ∈ E ++ L ∧ p.1 ∉ U.map Prod.fst))) (hU : ∀ u ∈ U, u.1 ∈ E.map Prod.fst ∨ u.1 ∈ L.map Prod.fst) : Kn H0 H' E2 L2 := by
 have hin : ∀ {A B : List (Nat × Obj)} {p : Nat × Obj}, B.map Prod.fst = A.map Prod.fst → p ∈ B → ∃ q ∈ A, q.1 = p.1 := fun hAB hp => by
  have := Qbc hp; rw [hAB] at this; obtain ⟨q, h1, h2⟩ := List.mem_map.1 this; exact ⟨q, h1, h2⟩
 refine ⟨fun p hp => ?_, fun p hp => ?_, fun p hp => ?_, by rw [hE]; exact hk.dE, by rw [hL]; exact hk.dL, fun m hm hn => ?_⟩
 ·obtain ⟨h1, h2⟩ := h p hp
  refine ⟨?_, h1⟩
  rcases h2 with h2 | ⟨h2, h3⟩
  ·exact hu.1 p h2
  ·obtain ⟨a1, a2⟩ := hk.get p h2
   rw [hu.2 p.1 (by rw [a1]; exact a2) h3, a1]
 ·obtain ⟨q, hq, hh⟩ := hin hE hp; rw [← hh]; exact hk.ext q hq
 ·obtain ⟨q, hq, hh⟩ := hin hL hp; rw [← hh]; exact hk.loc q hq
 ·rw [hE] at hn
  have h0 := hk.chg m hm hn
  rw [hu.2 m (by rw [h0]; exact hm) (fun hh => ?_), h0]
  obtain ⟨u, hu1, hu2⟩ := List.mem_map.1 hh
  rcases hU u hu1 with a | a
  ·exact hn (hu2 ▸ a)
  ·obtain ⟨q, hq, hh⟩ := List.mem_map.1 a
   exact hm (by rw [← hu2, ← hh]; exact hk.loc q hq)
theorem Kn.call0 (hk : Kn H0 H E L) (hu : Upd H H' []) : Kn H0 H' E L := hk.callg hu rfl rfl (fun p hp => ⟨(hk.get p hp).2, .inr ⟨hp, by simp⟩⟩) (by simp)
theorem Kn.callE (hk : Kn H0 H E L) (i : Nat) {l : Nat} {o o' : Obj} (h : E[i]? = some (l, o)) (hu : Upd H H' [(l, o')]) (ho : o' ≠ .none) : Kn H0 H' (E.set i (l, o')) L := by
 refine hk.callg hu (Qb2 h) rfl (fun p hp => ?_) (fun u hu => by simp at hu; subst hu; exact .inl (Qbc (p := (l, o)) (List.mem_of_getElem? h)))
 rcases List.mem_append.1 hp with hp | hp
 ·rcases Qbf hp with rfl | ⟨j, hj, hp⟩
  ·exact ⟨ho, .inl (by simp)⟩
  ·have hm := List.mem_append_left L (List.mem_of_getElem? hp)
   exact ⟨(hk.get p hm).2, .inr ⟨hm, by simp; exact fun hh => hj (Qdu hk.dE hp h hh)⟩⟩
 ·have hm := List.mem_append_right E hp
  exact ⟨(hk.get p hm).2, .inr ⟨hm, by simp; exact fun hh => hk.usedE i h (hh ▸ hk.loc p hp)⟩⟩
theorem Kn.callL (hk : Kn H0 H E L) (i : Nat) {l : Nat} {o o' : Obj} (h : L[i]? = some (l, o)) (hu : Upd H H' [(l, o')]) (ho : o' ≠ .none) : Kn H0 H' E (L.set i (l, o')) := by
 refine hk.callg hu rfl (Qb2 h) (fun p hp => ?_) (fun u hu => by simp at hu; subst hu; exact .inr (Qbc (p := (l, o)) (List.mem_of_getElem? h)))
 rcases List.mem_append.1 hp with hp | hp
 ·have hm := List.mem_append_left L hp
  exact ⟨(hk.get p hm).2, .inr ⟨hm, by simp; exact fun hh => hk.ext p hp (hh ▸ hk.free i h)⟩⟩
 ·rcases Qbf hp with rfl | ⟨j, hj, hp⟩
  ·exact ⟨ho, .inl (by simp)⟩
  ·have hm := List.mem_append_right E (List.mem_of_getElem? hp)
   exact ⟨(hk.get p hm).2, .inr ⟨hm, by simp; exact fun hh => hj (Qdu hk.dL hp h hh)⟩⟩
theorem Kn.callEE (hk : Kn H0 H E L) (i j : Nat) {l m : Nat} {o o' q q' : Obj} (h : E[i]? = some (l, o)) (h2 : E[j]? = some (m, q)) (hij : i ≠ j) (hu : Upd H H' [(l, o'), (m, q')]) (ho : o' ≠ .none) (hq : q' ≠ .none) :
  Kn H0 H' ((E.set i (l, o')).set j (m, q')) L := by
 have h2' : (E.set i (l, o'))[j]? = some (m, q) := by rw [List.getElem?_set]; rw [if_neg hij]; exact h2
 refine hk.callg hu ((Qb2 h2').trans (Qb2 h)) rfl (fun p hp => ?_) (fun u hu => ?_)
 ·rcases List.mem_append.1 hp with hp | hp
  ·rcases Qbf hp with rfl | ⟨b, hb, hp⟩
   ·exact ⟨hq, .inl (by simp)⟩
   ·rcases Qbf (List.mem_of_getElem? hp) with rfl | ⟨c, hc, hp'⟩
    ·exact ⟨ho, .inl (by simp)⟩
    ·have hm := List.mem_append_left L (List.mem_of_getElem? hp')
     rw [List.getElem?_set] at hp
     split at hp
     ·rename_i hib
      split at hp
      ·simp at hp; subst hp; exact ⟨ho, .inl (by simp)⟩
      ·simp at hp
     ·rename_i hib
      refine ⟨(hk.get p hm).2, .inr ⟨hm, ?_⟩⟩
      simp only [List.map_cons, List.map_nil, List.mem_cons, List.not_mem_nil, or_false, not_or]
      exact ⟨fun hh => hib (Qdu hk.dE hp h hh).symm, fun hh => hb (Qdu hk.dE hp h2 hh)⟩
  ·have hm := List.mem_append_right E hp
   refine ⟨(hk.get p hm).2, .inr ⟨hm, ?_⟩⟩
   simp only [List.map_cons, List.map_nil, List.mem_cons, List.not_mem_nil, or_false, not_or]
   exact ⟨fun hh => hk.usedE i h (hh ▸ hk.loc p hp), fun hh => hk.usedE j h2 (hh ▸ hk.loc p hp)⟩
 ·simp at hu
  rcases hu with rfl | rfl
  ·exact .inl (Qbc (p := (l, o)) (List.mem_of_getElem? h))
  ·exact .inl (Qbc (p := (m, q)) (List.mem_of_getElem? h2))
theorem Kn.fin (hk : Kn H0 H E L) : Upd H0 (H.frz (Go.AE.un H0)) E := by
 refine ⟨fun p hp => ?_, fun m hm hn => ?_⟩
 ·rw [Qa2e (hk.ext p hp)]; exact (hk.get p (List.mem_append_left _ hp)).1
 ·rw [Qa2e hm]; exact hk.chg m hm hn
theorem Q0 {f : Nat} {args : List V} {K : V → Heap → Prop} (h : Qp P f args H fun x H' => ∃ x', FrzV H' (un H) x x' ∧ K x' (H'.frz (un H))) : Qp P f args H K :=
 Qa1x (Qayn h fun x H' ⟨x', h1, h2⟩ => ⟨un H, x', h1, h2⟩)
theorem Kn.al (hk : Kn H0 H E L) {x : Nat} {o : Obj} (hx : H x = .none) (h1 : H' = H.set x o) (ho : o ≠ .none := by nofun) : Kn H0 H' E (L ++ [(x, o)]) := h1 ▸ hk.alloc hx ho
theorem Kn.stL (hk : Kn H0 H E L) (i : Nat) {x : Nat} {o o' : Obj} (h : L[i]? = some (x, o)) (h1 : H' = H.set x o') (ho : o' ≠ .none := by nofun) : Kn H0 H' E (L.set i (x, o')) := h1 ▸ hk.setL i h ho
theorem Kn.stE (hk : Kn H0 H E L) (i : Nat) {x : Nat} {o o' : Obj} (h : E[i]? = some (x, o)) (h1 : H' = H.set x o') (ho : o' ≠ .none := by nofun) : Kn H0 H' (E.set i (x, o')) L := h1 ▸ hk.setE i h ho
theorem Kn.ap (hk : Kn H0 H E L) (i : Nat) {y y' : Nat} {o o' : Obj} (h : L[i]? = some (y, o)) (hy : (H.set y .none) y' = .none) (h1 : H' = (H.set y .none).set y' o') (ho : o' ≠ .none := by nofun) : Kn H0 H' E (L.set i (y', o')) := h1 ▸ hk.app i h hy ho
end Go.AE

namespace Go.AE.Y
theorem Qo {x : Int} (h1 : -(2^63) ≤ x) (h2 : x < 2^63) : inR .i64 x := by
 unfold inR
 have a1 : IntKind.min .i64 = -(2^63) := by decide
 have a2 : IntKind.max .i64 = 2^63 - 1 := by decide
 rw [a1, a2]; omega
theorem Qfg (b : UInt8) : inR .i64 (b.toNat : Int) := Qo (by omega) (by have := b.toNat_lt; omega)
def Qbt (bs : List UInt8) : List (List C) := bs.map fun b => [.int .u8 b.toNat]
theorem Qau (bs : List UInt8) : (Qbt bs).length = bs.length := by simp [Qbt]
theorem Q0i (bs : List UInt8) (i : Nat) (h : i < bs.length) : (Qbt bs).getD i [] = [.int .u8 (bs.getD i 0).toNat] := by
 simp [Qbt, List.getD_eq_getElem?_getD, h]
theorem Qbbl {a b : Int} (ha : 0 ≤ a) (hb : 0 ≤ b) (ha' : a < 2^62) (hb' : b < 2^62) : 0 ≤ Qayq .xor .i64 a b := by
 obtain ⟨m, rfl⟩ := Int.eq_ofNat_of_zero_le ha
 obtain ⟨n, rfl⟩ := Int.eq_ofNat_of_zero_le hb
 have hm : m < 2^62 := by omega
 have hn : n < 2^62 := by omega
 have hx : m ^^^ n < 2^62 := Nat.xor_lt_two_pow hm hn
 have h1 : (BitVec.ofInt (IntKind.bits .i64) (m : Int) ^^^ BitVec.ofInt (IntKind.bits .i64) (n : Int)).toNat = m ^^^ n := by
  have hb : IntKind.bits .i64 = 64 := rfl
  rw [hb, BitVec.toNat_xor]
  have e1 : (BitVec.ofInt 64 (m : Int)).toNat = m := by simp; omega
  have e2 : (BitVec.ofInt 64 (n : Int)).toNat = n := by simp; omega
  rw [e1, e2]
 simp only [Qayq]
 rw [h1]
 simp only [IntKind.wrap]
 have hb : IntKind.bits .i64 = 64 := rfl
 have hm : ((m ^^^ n : Nat) : Int) % 2 ^ 64 = (m ^^^ n : Nat) := Int.emod_eq_of_lt (by omega) (by omega)
 rw [hb, hm]
 rw [if_neg]
 ·omega
 ·simp only [Bool.and_eq_true, decide_eq_true_eq, not_and]
  intro _; omega
structure Rdr where
 l : Nat
 fl : Bool
 bs : List UInt8
def Rdr.o (R : Rdr) (k : Nat) : Obj := .st [.sl R.fl 1 (Qbt R.bs), .int .i64 k]
theorem Rdr.o_ne (R : Rdr) (k : Nat) : R.o k ≠ .none := by simp [Rdr.o]
def Qe (ns : List Int) : List (List C) := ns.map fun n => [.int .i64 n]
theorem Qg (ns : List Int) : (Qe ns).length = ns.length := by simp [Qe]
theorem Q6 (ns : List Int) (i : Nat) (h : i < ns.length) : (Qe ns).getD i [] = [.int .i64 (ns.getD i 0)] := by
 simp [Qe, List.getD_eq_getElem?_getD, h]
theorem Qdb (a b : List Int) : Qe (a ++ b) = Qe a ++ Qe b := by simp [Qe]
theorem Qx (ns : List Int) : ∀ r ∈ Qe ns, noOw r = true := by
 intro r hr; simp [Qe] at hr; obtain ⟨n, _, rfl⟩ := hr; rfl
def Qbd (ss : List (List UInt8)) : List (List C) := ss.map fun s => [.str s]
theorem Qaq (ss : List (List UInt8)) : (Qbd ss).length = ss.length := by simp [Qbd]
theorem Qg4 (ss : List (List UInt8)) (i : Nat) (h : i < ss.length) : (Qbd ss).getD i [] = [.str (ss.getD i [])] := by
 simp [Qbd, List.getD_eq_getElem?_getD, h]
theorem Qail : Qbd [] = [] := rfl
theorem Qaxd (a : List (List UInt8)) (n : List UInt8) : Qbd a ++ [[.str n]] = Qbd (a ++ [n]) := by simp [Qbd]
theorem Qli (ns : List (List UInt8)) : ∀ r ∈ Qbd ns, noOw r = true := by
 intro r hr; simp [Qbd] at hr; obtain ⟨n, _, rfl⟩ := hr; rfl
theorem Qhg {rows : List (List C)} (h : ∀ r ∈ rows, noOw r = true) : ∀ r ∈ rows, ∀ c ∈ r, c.isOw = false := fun r hr c hc => by
 have := h r hr
 simp only [noOw, List.all_eq_true] at this
 simpa using this c hc
theorem Qa7s {a b : List (List C)} (ha : ∀ r ∈ a, noOw r = true) (hb : ∀ r ∈ b, noOw r = true) : ∀ r ∈ a ++ b, noOw r = true := fun r hr => by
 rcases List.mem_append.1 hr with h | h
 ·exact ha r h
 ·exact hb r h
inductive Ex where
 | mk (op n : Int) (name : List UInt8) (kids : List Ex)
def Ex.op : Ex → Int | .mk op _ _ _ => op
def Ex.n : Ex → Int | .mk _ n _ _ => n
def Ex.name : Ex → List UInt8 | .mk _ _ s _ => s
def Ex.kids : Ex → List Ex | .mk _ _ _ k => k
mutual
def Ex.cells : Ex → List C
 | .mk op n name kids => [.int .i64 op, .int .i64 n, .str name, .sl false 4 (Qbj kids)]
def Qbj : List Ex → List (List C)
 | [] => []
 | x :: r => x.cells :: Qbj r
end
theorem Ex.cells_eq (x : Ex) : x.cells = [.int .i64 x.op, .int .i64 x.n, .str x.name, .sl false 4 (Qbj x.kids)] := by
 cases x; simp [Ex.cells, Ex.op, Ex.n, Ex.name, Ex.kids]
theorem Qvx (l : List Ex) : Qbj l = l.map Ex.cells := by
 induction l with
 | nil => simp [Qbj]
 | cons x r ih => simp [Qbj, ih]
theorem Qa1 (l : List Ex) : (Qbj l).length = l.length := by simp [Qvx]
theorem Qeb (l : List Ex) (i : Nat) (h : i < l.length) : (Qbj l).getD i [] = (l[i]'h).cells := by
 simp [Qvx, List.getD_eq_getElem?_getD, h]
theorem Qayz (a : List Ex) (x : Ex) : Qbj a ++ [x.cells] = Qbj (a ++ [x]) := by simp [Qvx]
theorem Ex.noOw (x : Ex) : Go.AE.noOw x.cells = true := by rw [x.cells_eq]; rfl
theorem Qit (l : List Ex) : ∀ r ∈ Qbj l, Go.AE.noOw r = true := by
 intro r hr; rw [Qvx] at hr; obtain ⟨x, _, rfl⟩ := List.mem_map.1 hr; exact x.noOw
theorem Ex.cells_len (x : Ex) : x.cells.length = 4 := by rw [x.cells_eq]; rfl
mutual
def Ex.size : Ex → Nat
 | .mk _ _ _ kids => 1 + Qae kids
def Qae : List Ex → Nat
 | [] => 0
 | x :: r => x.size + Qae r
end
mutual
def Ex.ok : Ex → Prop
 | .mk op _ _ kids => (op = 10 → kids.length = 2) ∧ Qdn kids
def Qdn : List Ex → Prop
 | [] => True
 | x :: r => x.ok ∧ Qdn r
end
theorem Q5d {l : List Ex} (h : Qdn l) : ∀ x ∈ l, x.ok := by
 induction l with
 | nil => simp
 | cons y r ih =>
  simp only [Qdn] at h
  intro x hx
  rcases List.mem_cons.1 hx with rfl | hx
  ·exact h.1
  ·exact ih h.2 x hx
theorem Qa2c {a b : List Ex} (ha : Qdn a) (hb : Qdn b) : Qdn (a ++ b) := by
 induction a with
 | nil => exact hb
 | cons x r ih => simp only [Qdn] at ha; exact ⟨ha.1, ih ha.2⟩
theorem Qul (a b : List Ex) : Qae (a ++ b) = Qae a + Qae b := by
 induction a with
 | nil => simp [Qae]
 | cons x r ih => simp [Qae, ih]; omega
theorem Ex.size_pos (x : Ex) : 1 ≤ x.size := by cases x; simp [Ex.size]
theorem Qec {l : List Ex} {x : Ex} (h : x ∈ l) : x.size ≤ Qae l := by
 induction l with
 | nil => simp at h
 | cons y r ih =>
  simp only [Qae]
  rcases List.mem_cons.1 h with rfl | h
  ·omega
  ·have := ih h; omega
theorem Ex.size_kids (x : Ex) : x.size = 1 + Qae x.kids := by cases x; simp [Ex.size, Ex.kids]
theorem Ex.ok_kids {x : Ex} (h : x.ok) : Qdn x.kids := by cases x; simp only [Ex.ok] at h; exact h.2
theorem Ex.ok_and {x : Ex} (h : x.ok) (h1 : x.op = 10) : x.kids.length = 2 := by cases x; simp only [Ex.ok] at h; exact h.1 h1
theorem Ex.frz {H : Heap} {S : Nat → Bool} {fl : Bool} (x : Ex) : FrzV H S (.ag [.int .i64 x.op, .int .i64 x.n, .str x.name, .sl fl 4 (Qbj x.kids)]) (.ag x.cells) := by
 rw [x.cells_eq]
 exact (FrzL.cons (Qi rfl) (FrzL.cons (Qi rfl) (FrzL.cons (Qi rfl) (FrzL.cons (Q5w (Qhg (Qit _))) FrzL.nil)))).ag
end Go.AE.Y

namespace Go.AE.Y
variable {H : Heap} {S : Nat → Bool}
inductive FrzR (H : Heap) (S : Nat → Bool) : List (List C) → List (List C) → Prop
 | nil : FrzR H S [] []
 | cons {r r' : List C} {l l' : List (List C)} (h : FrzL H S r r') (t : FrzR H S l l') : FrzR H S (r :: l) (r' :: l')
theorem FrzR.spec {l l' : List (List C)} (h : FrzR H S l l') : l'.length = l.length ∧ ∀ (i : Nat) (r r' : List C), l[i]? = some r → l'[i]? = some r' → FrzL H S r r' := by
 induction h with
 | nil => exact ⟨rfl, fun j c c' h => by simp at h⟩
 | cons h t ih =>
  refine ⟨by simp [ih.1], fun j c c' h1 h2 => ?_⟩
  cases j with
  | zero => simp at h1 h2; subst h1; subst h2; exact h
  | succ j => simp at h1 h2; exact ih.2 j c c' h1 h2
theorem FrzR.sl {fl : Bool} {sz : Nat} {l l' : List (List C)} (h : FrzR H S l l') : FrzC H S (.sl fl sz l) (.sl false sz l') :=
 .sl fl sz l l' h.spec.1 (fun i r r' h1 h2 => (h.spec.2 i r r' h1 h2).spec.1) fun i r r' j c c' h1 h2 h3 h4 => (h.spec.2 i r r' h1 h2).spec.2 j c c' h3 h4
theorem FrzR.vsl {l sz n : Nat} {rows rows' : List (List C)} (hS : S l = true) (hH : H l = .vec sz rows) (hn : n = rows.length) (h : FrzR H S rows rows') : FrzC H S (.vsl l sz 0 n) (.sl false sz rows') := by
 subst hn
 exact .vsl l sz 0 rows.length rows rows rows' hS hH (by omega) (by simp) h.spec.1 (fun i r r' h1 h2 => (h.spec.2 i r r' h1 h2).spec.1) fun i r r' j c c' h1 h2 h3 h4 => (h.spec.2 i r r' h1 h2).spec.2 j c c' h3 h4
end Go.AE.Y
namespace Go.AE
open Go.AE.Y
variable {H : Heap} {S : Nat → Bool}
theorem FrzL.same {l : List C} (h : noOw l = true) : FrzL H S l l := by
 induction l with
 | nil => exact .nil
 | cons c r ih =>
  simp only [noOw, List.all_cons, Bool.and_eq_true, Bool.not_eq_true'] at h ih
  exact .cons (.same _ h.1) (ih (by simpa using h.2))
end Go.AE
namespace Go.AE.Y
variable {H : Heap} {S : Nat → Bool}
theorem FrzR.same {l : List (List C)} (h : ∀ r ∈ l, noOw r = true) : FrzR H S l l := by
 induction l with
 | nil => exact .nil
 | cons c r ih => exact .cons (.same (h _ List.mem_cons_self)) (ih fun x hx => h x (List.mem_cons_of_mem _ hx))
theorem FrzR.app {a a' b b' : List (List C)} (h : FrzR H S a a') (k : FrzR H S b b') : FrzR H S (a ++ b) (a' ++ b') := by
 induction h with
 | nil => exact k
 | cons h t ih => exact .cons h ih
inductive Sl (H : Heap) (S : Nat → Bool) (sz : Nat) (rows : List (List C)) : C → Prop
 | sl (fl : Bool) : Sl H S sz rows (.sl fl sz rows)
 | vsl (l n : Nat) (hS : S l = true) (hH : H l = .vec sz rows) (hn : n = rows.length) : Sl H S sz rows (.vsl l sz 0 n)
theorem Sl.frz {sz : Nat} {rows : List (List C)} {c : C} (h : Sl H S sz rows c) (hr : ∀ r ∈ rows, noOw r = true) : FrzC H S c (.sl false sz rows) := by
 cases h with
 | sl fl => exact (FrzR.same hr).sl
 | vsl l n h1 h2 h3 => exact (FrzR.same hr).vsl h1 h2 h3
end Go.AE.Y
namespace Go.AE
open Go.AE.Y
variable {H : Heap} {S : Nat → Bool}
theorem Upd.set2 {H H' : Heap} {a b : Nat} {oa ob o : Obj} (h : Upd H H' [(a, oa), (b, ob)]) (hn : a ≠ b) : Upd H (H'.set b o) [(a, oa), (b, o)] := by
 refine ⟨fun p hp => ?_, fun m hm hx => ?_⟩
 ·simp at hp
  rcases hp with rfl | rfl
  ·show (H'.set b o) a = oa
   rw [Heap.set_other _ _ hn]; exact h.1 (a, oa) (by simp)
  ·exact Heap.set_same _ _ _
 ·have : m ≠ b := by simp at hx; exact hx.2
  rw [Heap.set_other _ _ this]; exact h.2 m hm (by simpa using hx)
end Go.AE
namespace Go.AE.Y
variable {H : Heap} {S : Nat → Bool}
inductive St where
 | mk (op : Int) (name : List UInt8) (args : List Ex) (body els : List St)
def St.op : St → Int | .mk op _ _ _ _ => op
def St.name : St → List UInt8 | .mk _ s _ _ _ => s
def St.args : St → List Ex | .mk _ _ a _ _ => a
def St.body : St → List St | .mk _ _ _ b _ => b
def St.els : St → List St | .mk _ _ _ _ e => e
mutual
def St.cells : St → List C
 | .mk op name args body els => [.int .i64 op, .str name, .sl false 4 (Qbj args), .sl false 5 (Qaz body), .sl false 5 (Qaz els)]
def Qaz : List St → List (List C)
 | [] => []
 | x :: r => x.cells :: Qaz r
end
theorem St.cells_eq (x : St) : x.cells = [.int .i64 x.op, .str x.name, .sl false 4 (Qbj x.args), .sl false 5 (Qaz x.body), .sl false 5 (Qaz x.els)] := by
 cases x; simp [St.cells, St.op, St.name, St.args, St.body, St.els]
theorem Qx3 (l : List St) : Qaz l = l.map St.cells := by
 induction l with
 | nil => simp [Qaz]
 | cons x r ih => simp [Qaz, ih]
theorem Qa5 (l : List St) : (Qaz l).length = l.length := by simp [Qx3]
theorem Qeo (l : List St) (i : Nat) (h : i < l.length) : (Qaz l).getD i [] = (l[i]'h).cells := by
 simp [Qx3, List.getD_eq_getElem?_getD, h]
theorem Qacw (a b : List St) : Qaz a ++ Qaz b = Qaz (a ++ b) := by simp [Qx3]
theorem St.noOw (x : St) : Go.AE.noOw x.cells = true := by rw [x.cells_eq]; rfl
theorem Qfy (l : List St) : ∀ r ∈ Qaz l, Go.AE.noOw r = true := by
 intro r hr; rw [Qx3] at hr; obtain ⟨x, _, rfl⟩ := List.mem_map.1 hr; exact x.noOw
theorem St.cells_len (x : St) : x.cells.length = 5 := by rw [x.cells_eq]; rfl
mutual
def St.size : St → Nat
 | .mk _ _ args body els => 1 + Qae args + Qw body + Qw els
def Qw : List St → Nat
 | [] => 0
 | x :: r => x.size + Qw r
end
mutual
def St.ok : St → Prop
 | .mk _ _ args body els => 0 < args.length ∧ Qdn args ∧ Qco body ∧ Qco els
def Qco : List St → Prop
 | [] => True
 | x :: r => x.ok ∧ Qco r
end
theorem Qa5p {l : List St} (h : Qco l) : ∀ x ∈ l, x.ok := by
 induction l with
 | nil => simp
 | cons y r ih =>
  simp only [Qco] at h
  intro x hx
  rcases List.mem_cons.1 hx with rfl | hx
  ·exact h.1
  ·exact ih h.2 x hx
theorem Qacx {a b : List St} (ha : Qco a) (hb : Qco b) : Qco (a ++ b) := by
 induction a with
 | nil => exact hb
 | cons x r ih => simp only [Qco] at ha; exact ⟨ha.1, ih ha.2⟩
theorem Qg5 (a b : List St) : Qw (a ++ b) = Qw a + Qw b := by
 induction a with
 | nil => simp [Qw]
 | cons x r ih => simp [Qw, ih]; omega
theorem St.size_eq (x : St) : x.size = 1 + Qae x.args + Qw x.body + Qw x.els := by cases x; simp [St.size, St.args, St.body, St.els]
theorem St.ok_eq (x : St) : x.ok = (0 < x.args.length ∧ Qdn x.args ∧ Qco x.body ∧ Qco x.els) := by cases x; simp [St.ok, St.args, St.body, St.els]
theorem Qlj {l : List St} {x : St} (h : x ∈ l) : x.size ≤ Qw l := by
 induction l with
 | nil => simp at h
 | cons y r ih =>
  simp only [Qw]
  rcases List.mem_cons.1 h with rfl | h
  ·omega
  ·have := ih h; omega
structure Fn where
 name : List UInt8
 params : List (List UInt8)
 body : List St
def Fn.cells (f : Fn) : List C := [.str f.name, .sl false 1 (Qbd f.params), .sl false 5 (Qaz f.body)]
def Qb1 (l : List Fn) : List (List C) := l.map Fn.cells
theorem Qbb (l : List Fn) : (Qb1 l).length = l.length := by simp [Qb1]
theorem Qfv (l : List Fn) (i : Nat) (h : i < l.length) : (Qb1 l).getD i [] = (l[i]'h).cells := by
 simp [Qb1, List.getD_eq_getElem?_getD, h]
theorem Qaho (a : List Fn) (x : Fn) : Qb1 a ++ [x.cells] = Qb1 (a ++ [x]) := by simp [Qb1]
theorem Fn.noOw (x : Fn) : Go.AE.noOw x.cells = true := rfl
theorem Fn.cells_len (x : Fn) : x.cells.length = 3 := rfl
theorem Qahn (l : List Fn) : ∀ r ∈ Qb1 l, Go.AE.noOw r = true := by
 intro r hr; obtain ⟨x, _, rfl⟩ := List.mem_map.1 hr; exact x.noOw
structure GS where
 fns : List Fn
 ffl : C × List (Nat × Obj)
 vars : List (List UInt8)
 vfl : Bool
 next : Int
 left : Int
def GS.o (s : GS) (R : Rdr) : Obj := .st [.ptr R.l 0, s.ffl.1, .sl s.vfl 1 (Qbd s.vars), .int .i64 s.next, .int .i64 s.left]
theorem GS.o_ne (s : GS) (R : Rdr) : s.o R ≠ .none := by simp [GS.o]
structure GS.ok (s : GS) (k : Nat) : Prop where
 n0 : -1 ≤ s.next
 n1 : s.next ≤ k + 10
 l0 : -(4 * (k : Int) + 10) ≤ s.left
 l1 : s.left ≤ 100
 v : s.vars.length ≤ k + 10
 f : ∀ f ∈ s.fns, f.params.length ≤ 3
 fn : s.fns.length ≤ 3
theorem GS.ok.mono {s : GS} {k k' : Nat} (h : s.ok k) (hk : k ≤ k') : s.ok k' :=
 ⟨h.n0, by have := h.n1; omega, by have := h.l0; omega, h.l1, by have := h.v; omega, h.f, h.fn⟩
end Go.AE.Y

namespace Go.AE
variable {H0 H H' : Heap} {E L B : List (Nat × Obj)}
theorem Upd.drop2 {H H' : Heap} {a b : Nat} {oa ob : Obj} (h : Upd H H' [(a, oa), (b, ob)]) (hb : H b = ob) : Upd H H' [(a, oa)] := by
 refine ⟨fun p hp => h.1 p (by simp at hp; subst hp; simp), fun m hm hx => ?_⟩
 by_cases hmb : m = b
 ·subst hmb; rw [hb]; exact h.1 (m, ob) (by simp)
 ·exact h.2 m hm (by simp at hx ⊢; exact ⟨hx, hmb⟩)
theorem Upd.drop1 {H H' : Heap} {a : Nat} {oa : Obj} (h : Upd H H' [(a, oa)]) (ha : H a = oa) : Upd H H' [] := by
 refine ⟨by simp, fun m hm hx => ?_⟩
 by_cases hmb : m = a
 ·subst hmb; rw [ha]; exact h.1 (m, oa) (by simp)
 ·exact h.2 m hm (by simpa using hmb)
theorem Kn.perm {L' : List (Nat × Obj)} (h : Kn H0 H E L) (hp : L.Perm L') : Kn H0 H E L' :=
 ⟨fun p hp' => h.get p (by
   rcases List.mem_append.1 hp' with a | a
   ·exact List.mem_append_left _ a
   ·exact List.mem_append_right _ (hp.mem_iff.2 a)), h.ext, fun p hp' => h.loc p (hp.mem_iff.2 hp'), h.dE, (hp.map Prod.fst).nodup_iff.1 h.dL, h.chg⟩
def Gr (Lg : List (Nat × Obj)) (sz : Nat) (rows : List (List C)) (c : C) : Prop :=
 (c = .sl true sz [] ∧ rows = [] ∧ Lg = []) ∨ ∃ y, c = .vsl y sz 0 rows.length ∧ Lg = [(y, .vec sz rows)]
theorem Gr.nil (sz : Nat) : Gr [] sz [] (.sl true sz []) := .inl ⟨rfl, rfl, rfl⟩
theorem Gr.mk (y sz : Nat) (rows : List (List C)) {n : Nat} (hn : n = rows.length) : Gr [(y, .vec sz rows)] sz rows (.vsl y sz 0 n) := .inr ⟨y, by rw [hn], rfl⟩
variable {sz : Nat} {rows : List (List C)} {c : C} {Lg : List (Nat × Obj)}
theorem Gr.isOw (h : Gr Lg sz rows c) : c.isOw = false := by rcases h with ⟨rfl, _⟩ | ⟨y, rfl, _⟩ <;> rfl
theorem Gr.elemSz (h : Gr Lg sz rows c) : c.elemSz = sz := by rcases h with ⟨rfl, _⟩ | ⟨y, rfl, _⟩ <;> rfl
theorem Gr.lenC (h : Gr Lg sz rows c) : lenC c = rows.length := by
 rcases h with ⟨rfl, rfl, _⟩ | ⟨y, rfl, _⟩ <;> rfl
theorem Gr.get (h : Gr Lg sz rows c) (kn : Kn H0 H E (B ++ Lg)) : okSl H c ∧ rowsOf H c = rows := by
 rcases h with ⟨rfl, rfl, _⟩ | ⟨y, rfl, rfl⟩
 ·exact ⟨trivial, rfl⟩
 ·have hy : H y = .vec sz rows := (kn.get (y, .vec sz rows) (by simp)).1
  refine ⟨?_, ?_⟩
  ·simp [okSl, hy]
  ·simp [rowsOf, hy]
theorem Gr.okSl (h : Gr Lg sz rows c) (kn : Kn H0 H E (B ++ Lg)) : Go.AE.okSl H c := (h.get kn).1
theorem Gr.rowsOf (h : Gr Lg sz rows c) (kn : Kn H0 H E (B ++ Lg)) : Go.AE.rowsOf H c = rows := (h.get kn).2
theorem Gr.frz (h : Gr Lg sz rows c) (kn : Kn H0 H E (B ++ Lg)) (hr : ∀ r ∈ rows, noOw r = true) : FrzC H (un H0) c (.sl false sz rows) := by
 rcases h with ⟨rfl, rfl, _⟩ | ⟨y, rfl, rfl⟩
 ·exact Y.FrzR.nil.sl
 ·exact (Y.FrzR.same hr).vsl (Qlk (kn.loc (y, .vec sz rows) (by simp))) (kn.get (y, .vec sz rows) (by simp)).1 rfl
theorem Gr.frzR {rows' : List (List C)} (h : Gr Lg sz rows c) (kn : Kn H0 H E (B ++ Lg)) (hr : Y.FrzR H (un H0) rows rows') : FrzC H (un H0) c (.sl false sz rows') := by
 rcases h with ⟨rfl, rfl, _⟩ | ⟨y, rfl, rfl⟩
 ·cases hr; exact Y.FrzR.nil.sl
 ·exact hr.vsl (Qlk (kn.loc (y, .vec sz rows) (by simp))) (kn.get (y, .vec sz rows) (by simp)).1 rfl
structure Slc (H : Heap) (sz : Nat) (rws : List (List C)) (b : C) : Prop where
 ok : okSl H b
 sz : b.elemSz = sz
 rows : rowsOf H b = rws
 len : Go.AE.lenC b = rws.length
theorem Slc.mk' (H : Heap) (fl : Bool) (sz : Nat) (rows : List (List C)) : Slc H sz rows (.sl fl sz rows) := ⟨trivial, rfl, rfl, rfl⟩
theorem Kn.grow {K : V → Heap → Prop} {new : List (List C)} {b : C} (kn : Kn H0 H E (B ++ Lg)) (hc : Gr Lg sz rows c) (hb : Slc H sz new b)
  (h1 : ∀ r ∈ new, noOw r = true) (h2 : rows.length + new.length ≤ LIM)
  (h : ∀ y' H', Kn H0 H' E (B ++ [(y', .vec sz (rows ++ new))]) → K (.c (.vsl y' sz 0 (rows.length + new.length))) H') : appQ H sz c b K := by
 refine ⟨hb.ok, hb.sz, ?_⟩
 rcases hc with ⟨rfl, rfl, rfl⟩ | ⟨y, rfl, rfl⟩
 ·simp only [hb.rows, hb.len, List.nil_append, List.length_nil, Nat.zero_add]
  refine ⟨trivial, .inl trivial, h1, by simpa using h2, fun l hl H' hH' => ?_⟩
  rw [List.append_nil] at kn
  have := h l H' (by simpa using kn.al hl hH')
  simpa using this
 ·have hy : H y = .vec sz rows := (kn.get (y, .vec sz rows) (by simp)).1
  simp only [hy, hb.rows, hb.len, List.drop_zero, List.take_length]
  refine ⟨trivial, trivial, by omega, h1, h2, fun l' hl' H' hH' => ?_⟩
  refine h l' H' ?_
  have := kn.ap B.length (y := y) (o := .vec sz rows) (by simp) hl' hH'
  simpa using this
end Go.AE
namespace Go.AE.Y
variable {H H' : Heap} {R : Rdr} {gl : Nat} {s s' : GS} {L : List (Nat × Obj)} {o q : Obj}
def FnsOk (H : Heap) (R : Rdr) (gl : Nat) (s : GS) : Prop := Gr s.ffl.2 3 (Qb1 s.fns) s.ffl.1 ∧ ∀ p ∈ s.ffl.2, H p.1 = p.2 ∧ p.1 ≠ R.l ∧ p.1 ≠ gl
theorem FnsOk.keep (h : FnsOk H R gl s) (kn : Kn H H' [(R.l, o), (gl, q)] L) (h1 : s'.fns = s.fns) (h2 : s'.ffl = s.ffl) : FnsOk H' R gl s' := by
 refine ⟨by rw [h1, h2]; exact h.1, fun p hp => ?_⟩
 rw [h2] at hp
 obtain ⟨a1, a2, a3⟩ := h.2 p hp
 refine ⟨?_, a2, a3⟩
 have hn : p.2 ≠ .none := by
  rcases h.1 with ⟨_, _, hx⟩ | ⟨y, _, hx⟩
  ·rw [hx] at hp; simp at hp
  ·rw [hx] at hp; simp at hp; subst hp; simp
 rw [kn.chg p.1 (by rw [a1]; exact hn) (by simp [a2, a3]), a1]
theorem FnsOk.rd (h : FnsOk H R gl s) : okSl H s.ffl.1 = True ∧ rowsOf H s.ffl.1 = Qb1 s.fns := by
 rcases h.1 with ⟨h1, h2, h3⟩ | ⟨y, h1, h3⟩
 ·rw [h1, h2]; exact ⟨rfl, rfl⟩
 ·have hy : H y = .vec 3 (Qb1 s.fns) := (h.2 (y, .vec 3 (Qb1 s.fns)) (by rw [h3]; simp)).1
  rw [h1]; exact ⟨by simp [okSl, hy], by simp [rowsOf, hy]⟩
theorem FnsOk.ok (h : FnsOk H R gl s) (kn : Kn H H' [(R.l, o), (gl, q)] L) : okSl H' s.ffl.1 = True := (h.keep kn rfl rfl).rd.1
theorem FnsOk.rows (h : FnsOk H R gl s) (kn : Kn H H' [(R.l, o), (gl, q)] L) : rowsOf H' s.ffl.1 = Qb1 s.fns := (h.keep kn rfl rfl).rd.2
theorem FnsOk.len (h : FnsOk H R gl s) : lenC s.ffl.1 = s.fns.length := by rw [h.1.lenC, Qbb]
theorem FnsOk.esz (h : FnsOk H R gl s) : s.ffl.1.elemSz = 3 := h.1.elemSz
theorem FnsOk.ow (h : FnsOk H R gl s) : s.ffl.1.isOw = false := h.1.isOw
end Go.AE.Y

namespace Go.AE
variable {H0 H H' : Heap} {E L B E0 L0 Lg : List (Nat × Obj)}
def New (H H' : Heap) (N : List (Nat × Obj)) : Prop := ∀ p ∈ N, H p.1 = .none ∧ H' p.1 = p.2
theorem Kn.add1 (kn0 : Kn H0 H E0 L0) (kn : Kn H0 H' E L) (hE : E.map Prod.fst = E0.map Prod.fst) (hL : L.map Prod.fst = L0.map Prod.fst) {x : Nat} {o : Obj} (hx : H x = .none) (hx' : H' x = o) (ho : o ≠ .none) : Kn H0 H' E (L ++ [(x, o)]) := by
 obtain ⟨h1, h2, h3⟩ := kn0.newFree hx
 refine ⟨fun p hp => ?_, kn.ext, fun p hp => ?_, kn.dE, ?_, kn.chg⟩
 ·rw [← List.append_assoc] at hp
  rcases List.mem_append.1 hp with hp | hp
  ·exact kn.get p hp
  ·simp at hp; subst hp; exact ⟨hx', ho⟩
 ·rcases List.mem_append.1 hp with hp | hp
  ·exact kn.loc p hp
  ·simp at hp; subst hp; exact h1
 ·rw [List.map_append]
  refine List.nodup_append.2 ⟨kn.dL, by simp, fun a ha b hb => ?_⟩
  simp at hb; subst hb; rw [hL] at ha; exact fun hh => h3 (hh ▸ ha)
theorem Kn.addGr {sz : Nat} {rows : List (List C)} {c : C} (kn0 : Kn H0 H E0 L0) (kn : Kn H0 H' E L) (hE : E.map Prod.fst = E0.map Prod.fst) (hL : L.map Prod.fst = L0.map Prod.fst) (hg : Gr Lg sz rows c) (hn : New H H' Lg) : Kn H0 H' E (L ++ Lg) := by
 rcases hg with ⟨_, _, rfl⟩ | ⟨y, _, rfl⟩
 ·simpa using kn
 ·obtain ⟨h1, h2⟩ := hn (y, .vec sz rows) (by simp)
  exact kn0.add1 kn hE hL h1 h2 (by simp)
def unx (H : Heap) (Lg : List (Nat × Obj)) (m : Nat) : Bool := un H m && !(Lg.map Prod.fst).contains m
theorem Qayi {m : Nat} (h : H m ≠ .none) : unx H Lg m = false := by simp [unx, Qaxe h]
theorem Qbbf {p : Nat × Obj} (h : p ∈ Lg) : unx H Lg p.1 = false := by
 have : p.1 ∈ Lg.map Prod.fst := Qbc h
 simp only [unx, Bool.and_eq_false_iff, Bool.not_eq_false']
 exact .inr (List.contains_iff_mem.2 this)
theorem Kn.unx (hk : Kn H0 H E (B ++ Lg)) {p : Nat × Obj} (h : p ∈ B) : Go.AE.unx H0 Lg p.1 = true := by
 have h1 := hk.loc p (List.mem_append_left _ h)
 have h2 : p.1 ∉ Lg.map Prod.fst := fun hh => by
  have := hk.dL
  rw [List.map_append] at this
  exact (List.nodup_append.1 this).2.2 _ (Qbc h) _ hh rfl
 simp only [Go.AE.unx, Qlk h1, Bool.true_and, Bool.not_eq_true', Bool.eq_false_iff]
 intro hh
 exact h2 (List.contains_iff_mem.1 hh)
theorem Kn.finx (hk : Kn H0 H E (B ++ Lg)) : Upd H0 (H.frz (Go.AE.unx H0 Lg)) E ∧ New H0 (H.frz (Go.AE.unx H0 Lg)) Lg := by
 refine ⟨⟨fun p hp => ?_, fun m hm hn => ?_⟩, fun p hp => ⟨hk.loc p (List.mem_append_right _ hp), ?_⟩⟩
 ·have : H.frz (Go.AE.unx H0 Lg) p.1 = H p.1 := by simp [Heap.frz, Qayi (hk.ext p hp)]
  rw [this]; exact (hk.get p (List.mem_append_left _ hp)).1
 ·have : H.frz (Go.AE.unx H0 Lg) m = H m := by simp [Heap.frz, Qayi hm]
  rw [this]; exact hk.chg m hm hn
 ·have : H.frz (Go.AE.unx H0 Lg) p.1 = H p.1 := by simp only [Heap.frz]; rw [Qbbf hp]; rfl
  rw [this]; exact (hk.get p (List.mem_append_right _ (List.mem_append_right _ hp))).1
end Go.AE
namespace Go.AE.Y
theorem Qg8 {b : Bool} (h : (!b) = false) : b = true := by simpa using h
theorem Quv {b : Bool} (h : (!b) = true) : b = false := by simpa using h
theorem Ex.ne_nil (x : Ex) : (x.cells = []) = False := by rw [x.cells_eq]; simp
theorem St.ne_nil (x : St) : (x.cells = []) = False := by rw [x.cells_eq]; simp
theorem Fn.ne_nil (x : Fn) : (x.cells = []) = False := by simp [Fn.cells]
theorem Ex.take4 (x : Ex) : x.cells.take 4 = x.cells := List.take_of_length_le (by rw [x.cells_len]; omega)
theorem Ex.allOw (x : Ex) : (x.cells.all fun c => !c.isOw) = true := x.noOw
theorem St.take5 (x : St) : x.cells.take 5 = x.cells := List.take_of_length_le (by rw [x.cells_len]; omega)
theorem St.allOw (x : St) : (x.cells.all fun c => !c.isOw) = true := x.noOw
theorem Fn.take3 (x : Fn) : x.cells.take 3 = x.cells := List.take_of_length_le (by rw [x.cells_len]; omega)
theorem Fn.allOw (x : Fn) : (x.cells.all fun c => !c.isOw) = true := x.noOw
end Go.AE.Y

namespace Go.AE
variable {H0 H H' : Heap} {E L B A : List (Nat × Obj)} {P : Program}
theorem c_gh {b : SC} {Q : X → Env → Heap → Prop} {e e' : Env} (h : Qa9a e H e' H') (hb : Qah P b Q e' H') : Qah P (.seq .gh b) Q e H := ⟨e', H', h, hb⟩
theorem Kn.drop (kn : Kn H0 H E (A ++ B)) : Kn H0 H E A :=
 ⟨fun p hp => kn.get p (by
   rcases List.mem_append.1 hp with h | h
   ·exact List.mem_append_left _ h
   ·exact List.mem_append_right _ (List.mem_append_left _ h)), kn.ext, fun p hp => kn.loc p (List.mem_append_left _ hp), kn.dE, by
   have := kn.dL; rw [List.map_append] at this; exact (List.nodup_append.1 this).1, kn.chg⟩
theorem Kn.freeze {z gl : Nat} {o og og' : Obj} (kn : Kn H0 H E (B ++ [(z, o)])) (i : Nat) (hB : B[i]? = some (gl, og)) (hO : FrzO H (fun m => m == z) og og') (hn : og' ≠ .none) :
  FrzH H (fun m => m == z) ((H.frz fun m => m == z).set gl og') ∧ Kn H0 ((H.frz fun m => m == z).set gl og') E (B.set i (gl, og')) := by
 have hzf : H0 z = .none := kn.loc (z, o) (by simp)
 have hnd := kn.dL
 rw [List.map_append] at hnd
 have hne : ∀ p ∈ B, p.1 ≠ z := fun p hp hh => (List.nodup_append.1 hnd).2.2 _ (Qbc hp) z (by simp) hh
 have hneE : ∀ p ∈ E, p.1 ≠ z := fun p hp hh => kn.ext p hp (hh ▸ hzf)
 have hgl := hne _ (List.mem_of_getElem? hB)
 have hH : H gl = og := (kn.get (gl, og) (List.mem_append_right _ (List.mem_append_left _ (List.mem_of_getElem? hB)))).1
 refine ⟨(Qdq _ _).set (by simpa using hgl) (by rw [hH]; exact hO), ?_⟩
 have kn1 : Kn H0 (H.frz fun m => m == z) E B := by
  refine ⟨fun p hp => ?_, kn.ext, fun p hp => kn.loc p (List.mem_append_left _ hp), kn.dE, (List.nodup_append.1 hnd).1, fun m hm hx => ?_⟩
  ·have : p.1 ≠ z := by
    rcases List.mem_append.1 hp with h | h
    ·exact hneE p h
    ·exact hne p h
   have h2 : (H.frz fun m => m == z) p.1 = H p.1 := by simp [Heap.frz, this]
   rw [h2]
   refine kn.get p ?_
   rcases List.mem_append.1 hp with h | h
   ·exact List.mem_append_left _ h
   ·exact List.mem_append_right _ (List.mem_append_left _ h)
  ·have : m ≠ z := fun h => hm (h ▸ hzf)
   have h2 : (H.frz fun m => m == z) m = H m := by simp [Heap.frz, this]
   rw [h2]; exact kn.chg m hm hx
 exact kn1.setL i hB hn
theorem Kn.callEL (hk : Kn H0 H E L) (i j : Nat) {l m : Nat} {o o' q q' : Obj} (h : E[i]? = some (l, o)) (h2 : L[j]? = some (m, q)) (hu : Upd H H' [(l, o'), (m, q')]) (ho : o' ≠ .none) (hq : q' ≠ .none) :
  Kn H0 H' (E.set i (l, o')) (L.set j (m, q')) := by
 refine hk.callg hu (Qb2 h) (Qb2 h2) (fun p hp => ?_) (fun u hu => ?_)
 ·rcases List.mem_append.1 hp with hp | hp
  ·rcases Qbf hp with rfl | ⟨b, hb, hp⟩
   ·exact ⟨ho, .inl (by simp)⟩
   ·have hm := List.mem_append_left L (List.mem_of_getElem? hp)
    refine ⟨(hk.get p hm).2, .inr ⟨hm, ?_⟩⟩
    simp only [List.map_cons, List.map_nil, List.mem_cons, List.not_mem_nil, or_false, not_or]
    exact ⟨fun hh => hb (Qdu hk.dE hp h hh), fun hh => hk.ext p (List.mem_of_getElem? hp) (hh ▸ hk.free j h2)⟩
  ·rcases Qbf hp with rfl | ⟨b, hb, hp⟩
   ·exact ⟨hq, .inl (by simp)⟩
   ·have hm := List.mem_append_right E (List.mem_of_getElem? hp)
    refine ⟨(hk.get p hm).2, .inr ⟨hm, ?_⟩⟩
    simp only [List.map_cons, List.map_nil, List.mem_cons, List.not_mem_nil, or_false, not_or]
    exact ⟨fun hh => hk.usedE i h (hh ▸ hk.loc p (List.mem_of_getElem? hp)), fun hh => hb (Qdu hk.dL hp h2 hh)⟩
 ·simp at hu
  rcases hu with rfl | rfl
  ·exact .inl (Qbc (p := (l, o)) (List.mem_of_getElem? h))
  ·exact .inr (Qbc (p := (m, q)) (List.mem_of_getElem? h2))
end Go.AE

namespace Go.AE.Y
structure Blk where
 ic : C
 irows : List (List C)
 lg : List (Nat × Obj)
 jump : Int
 on : Int
 nfl : Bool
 next : List Int
def Blk.row (b : Blk) : List C := [.sl true 2 [], b.ic, .int .i64 b.jump, .int .i64 b.on, .sl b.nfl 1 (Qe b.next)]
structure LS where
 fns : List Fn
 pfl : Bool
 params : Int
 regs : Int
 bc : C
 lb : List (Nat × Obj)
 blocks : List Blk
 at_ : Nat
 vc : C
 lv : List (Nat × Obj)
 vars : List (List C)
 next : Int
def LS.o (s : LS) : Obj := .st [.sl s.pfl 3 (Qb1 s.fns), .int .i64 s.params, .int .i64 s.regs, s.bc, .int .i64 s.at_, s.vc, .int .i64 s.next, .sl true 1 []]
def LS.L (s : LS) (w : Nat) : List (Nat × Obj) := [(w, s.o)] ++ (s.lb ++ (s.lv ++ s.blocks.flatMap Blk.lg))
def InsRow (r : List C) : Prop := ∃ (op to n : Int) (fl : Bool) (args : List Int), r = [.int .i64 op, .int .i64 to, .sl fl 1 (Qe args), .int .i64 n]
def VarRow (r : List C) : Prop := ∃ (s : List UInt8) (a b : Int), r = [.str s, .int .i64 a, .int .i64 b]
def VGr (lv : List (Nat × Obj)) (vars : List (List C)) (c : C) : Prop :=
 (c = .sl true 3 [] ∧ vars = [] ∧ lv = []) ∨ ∃ y all n, c = .vsl y 3 0 n ∧ n ≤ all.length ∧ vars = all.take n ∧ lv = [(y, .vec 3 all)]
structure LInv (F H : Heap) (w : Nat) (s : LS) : Prop where
 kn : Kn F H [] (s.L w)
 gb : Gr s.lb 5 (s.blocks.map Blk.row) s.bc
 gv : VGr s.lv s.vars s.vc
 gi : ∀ b ∈ s.blocks, Gr b.lg 4 b.irows b.ic
 ri : ∀ b ∈ s.blocks, ∀ r ∈ b.irows, InsRow r
 rv : ∀ r ∈ s.vars, VarRow r
structure LS.ok (s : LS) (N : Nat) : Prop where
 r0 : 0 ≤ s.regs
 r1 : s.regs ≤ N
 n0 : 0 ≤ s.next
 n1 : s.next ≤ N
 b1 : s.blocks.length ≤ N
 i1 : ∀ b ∈ s.blocks, b.irows.length ≤ N
 v1 : s.vars.length ≤ N
theorem LS.ok.mono {s : LS} {N M : Nat} (h : s.ok N) (hm : N ≤ M) : s.ok M :=
 ⟨h.r0, by have := h.r1; omega, h.n0, by have := h.n1; omega, by have := h.b1; omega, fun b hb => by have := h.i1 b hb; omega, by have := h.v1; omega⟩
theorem InsRow.noOw {r : List C} (h : InsRow r) : Go.AE.noOw r = true := by obtain ⟨_, _, _, _, _, rfl⟩ := h; rfl
theorem VarRow.noOw {r : List C} (h : VarRow r) : Go.AE.noOw r = true := by obtain ⟨_, _, _, rfl⟩ := h; rfl
theorem VGr.isOw {lv : List (Nat × Obj)} {vars : List (List C)} {c : C} (h : VGr lv vars c) : c.isOw = false := by
 rcases h with ⟨rfl, _⟩ | ⟨_, _, _, rfl, _⟩ <;> rfl
theorem VGr.elemSz {lv : List (Nat × Obj)} {vars : List (List C)} {c : C} (h : VGr lv vars c) : c.elemSz = 3 := by
 rcases h with ⟨rfl, _⟩ | ⟨_, _, _, rfl, _⟩ <;> rfl
theorem VGr.lenC {lv : List (Nat × Obj)} {vars : List (List C)} {c : C} (h : VGr lv vars c) : Go.AE.lenC c = vars.length := by
 rcases h with ⟨rfl, rfl, _⟩ | ⟨_, _, _, rfl, h, rfl, _⟩
 ·rfl
 ·simp [Go.AE.lenC]; omega
variable {F H H' : Heap} {w : Nat} {s : LS}
theorem LInv.hw (h : LInv F H w s) : H w = s.o := h.kn.l 0 rfl
theorem LInv.vget (h : LInv F H w s) : okSl H s.vc = True ∧ rowsOf H s.vc = s.vars := by
 rcases h.gv with ⟨h1, h2, _⟩ | ⟨y, all, n, h1, h2, h3, h4⟩
 ·rw [h1, h2]; exact ⟨rfl, rfl⟩
 ·have hy : H y = .vec 3 all := (h.kn.get (y, .vec 3 all) (by simp [LS.L, h4])).1
  rw [h1]
  refine ⟨eq_true ?_, ?_⟩
  ·simp only [Go.AE.okSl, hy]; exact ⟨trivial, by omega⟩
  ·simp only [Go.AE.rowsOf, hy, List.drop_zero, h3]
theorem LInv.bvec (h : LInv F H w s) (hb : 0 < s.blocks.length) : ∃ y, s.bc = .vsl y 5 0 s.blocks.length ∧ s.lb = [(y, .vec 5 (s.blocks.map Blk.row))] ∧ H y = .vec 5 (s.blocks.map Blk.row) := by
 rcases h.gb with ⟨_, h2, _⟩ | ⟨y, h1, h2⟩
 ·simp at h2; rw [h2] at hb; simp at hb
 ·refine ⟨y, by rw [h1]; simp, h2, ?_⟩
  exact (h.kn.get (y, .vec 5 (s.blocks.map Blk.row)) (by simp [LS.L, h2])).1
theorem LInv.setw {s' : LS} (h : LInv F H w s) (h1 : H' = H.set w s'.o) (a1 : s'.lb = s.lb) (a2 : s'.lv = s.lv) (a3 : s'.blocks = s.blocks) (a4 : s'.bc = s.bc) (a5 : VGr s.lv s'.vars s'.vc) (a6 : ∀ r ∈ s'.vars, VarRow r) : LInv F H' w s' := by
 refine ⟨?_, by rw [a1, a3, a4]; exact h.gb, by rw [a2]; exact a5, by rw [a3]; exact h.gi, by rw [a3]; exact h.ri, a6⟩
 have := h.kn.stL 0 (x := w) (o := s.o) rfl h1 (by simp [LS.o])
 simp only [LS.L, a1, a2, a3]
 exact this
theorem Qa7v {α : Type} {A X Y : List α} : (A ++ (X ++ Y)).Perm ((A ++ Y) ++ X) := by
 rw [List.append_assoc]
 exact .append_left _ List.perm_append_comm
theorem LInv.addBlk {K : V → Heap → Prop} {fl : Bool} {b : Blk} (h : LInv F H w s) (hl : s.blocks.length + 1 ≤ LIM) (b1 : b.lg = []) (b2 : b.ic = .sl true 4 []) (b3 : b.irows = [])
  (hK : ∀ (y : Nat) (H1 : Heap), H1 w = s.o → (∀ H2, H2 = H1.set w (LS.o { s with bc := .vsl y 5 0 (s.blocks.length + 1) }) →
   LInv F H2 w { s with bc := .vsl y 5 0 (s.blocks.length + 1), lb := [(y, .vec 5 ((s.blocks ++ [b]).map Blk.row))], blocks := s.blocks ++ [b] }) → K (.c (.vsl y 5 0 (s.blocks.length + 1))) H1) :
  appQ H 5 s.bc (.sl fl 5 [b.row]) K := by
 have kn := h.kn
 have kn : Kn F H [] (([(w, s.o)] ++ (s.lv ++ s.blocks.flatMap Blk.lg)) ++ s.lb) := kn.perm Qa7v
 refine kn.grow h.gb (.mk' _ _ _ _) (by
  intro r hr; simp only [List.mem_singleton] at hr; subst hr; simp only [Blk.row, b2]; rfl) (by simpa using hl) fun y H1 kn => ?_
 have e1 : (s.blocks.map Blk.row).length + [b.row].length = s.blocks.length + 1 := by simp
 rw [e1]
 refine hK y H1 (kn.l 0 rfl) fun H2 h2 => ⟨?_, ?_, h.gv, ?_, ?_, h.rv⟩
 ·have := kn.stL 0 (x := w) (o := s.o) rfl h2 (by simp [LS.o])
  simp only [LS.L, List.flatMap_append, List.flatMap_cons, List.flatMap_nil, b1, List.append_nil, List.map_append, List.map_cons, List.map_nil]
  simp only [List.cons_append, List.nil_append, List.set_cons_zero] at this ⊢
  refine this.perm (.cons _ ?_)
  exact List.perm_append_comm
 ·exact .mk _ _ _ (by simp)
 ·intro b' hb'
  rcases List.mem_append.1 hb' with hb' | hb'
  ·exact h.gi b' hb'
  ·simp at hb'; subst hb'; rw [b1, b2, b3]; exact .nil 4
 ·intro b' hb'
  rcases List.mem_append.1 hb' with hb' | hb'
  ·exact h.ri b' hb'
  ·simp at hb'; subst hb'; rw [b3]; simp
theorem Qf0 {α β : Type} (f : α → List β) (l : List α) (i : Nat) (hi : i < l.length) : (l.flatMap f).Perm (f l[i] ++ (l.eraseIdx i).flatMap f) := by
 have h1 : (l[i] :: l.eraseIdx i).Perm l := by
  rw [List.eraseIdx_eq_take_drop_succ]
  refine List.perm_middle.symm.trans ?_
  rw [← List.drop_eq_getElem_cons hi, List.take_append_drop]
 have h2 := h1.symm.flatMap_right f
 simpa using h2
theorem Qep {α β : Type} (f : α → List β) (l : List α) (i : Nat) (x : α) (hi : i < l.length) : ((l.set i x).flatMap f).Perm (f x ++ (l.eraseIdx i).flatMap f) := by
 have := Qf0 f (l.set i x) i (by simpa using hi)
 simpa [List.eraseIdx_set_eq] using this
theorem Q6b (l : List Blk) (i : Nat) (b : Blk) : (l.map Blk.row).set i b.row = (l.set i b).map Blk.row := by rw [List.map_set]
theorem Qeg {l : List Blk} {i : Nat} {b x : Blk} (h : x ∈ l.set i b) : x = b ∨ x ∈ l := by
 rcases Qbf h with h | ⟨j, _, h⟩
 ·exact .inl h
 ·exact .inr (List.mem_of_getElem? h)
theorem LInv.setBlk {b' : Blk} {y i : Nat} (h : LInv F H w s) (hi : i < s.blocks.length) (hbc : s.bc = .vsl y 5 0 s.blocks.length) (hlb : s.lb = [(y, .vec 5 (s.blocks.map Blk.row))])
  (h1 : H' = H.set y (.vec 5 ((s.blocks.set i b').map Blk.row))) (a1 : b'.lg = s.blocks[i].lg) (a2 : b'.ic = s.blocks[i].ic) (a3 : b'.irows = s.blocks[i].irows) :
  LInv F H' w { s with lb := [(y, .vec 5 ((s.blocks.set i b').map Blk.row))], blocks := s.blocks.set i b' } := by
 have hm := List.getElem_mem hi
 refine ⟨?_, ?_, h.gv, fun b hb => ?_, fun b hb => ?_, h.rv⟩
 ·have kn := h.kn
  simp only [LS.L, hlb] at kn
  have kn := kn.stL 1 (x := y) rfl h1
  refine kn.perm ?_
  simp only [LS.L, List.cons_append, List.nil_append, List.set_cons_zero, List.set_cons_succ]
  refine .cons _ (.cons _ (.append_left _ ?_))
  refine (Qf0 Blk.lg s.blocks i hi).trans ?_
  rw [← a1]
  exact (Qep Blk.lg s.blocks i b' hi).symm
 ·simp only [hbc]
  exact .mk _ _ _ (by simp)
 ·rcases Qeg hb with rfl | hb
  ·rw [a1, a2, a3]; exact h.gi _ hm
  ·exact h.gi b hb
 ·rcases Qeg hb with rfl | hb
  ·rw [a3]; exact h.ri _ hm
  ·exact h.ri b hb
theorem LInv.addIns {K : V → Heap → Prop} {y i : Nat} {fl : Bool} {r : List C} (h : LInv F H w s) (hi : i < s.blocks.length) (hbc : s.bc = .vsl y 5 0 s.blocks.length) (hlb : s.lb = [(y, .vec 5 (s.blocks.map Blk.row))])
  (hr : InsRow r) (hl : s.blocks[i].irows.length + 1 ≤ LIM)
  (hK : ∀ (z : Nat) (H1 : Heap), H1 w = s.o → H1 y = .vec 5 (s.blocks.map Blk.row) →
   (∀ H2, H2 = H1.set y (.vec 5 ((s.blocks.map Blk.row).set i (Blk.row { s.blocks[i] with ic := .vsl z 4 0 (s.blocks[i].irows.length + 1) }))) →
    ∃ b' : Blk, b'.irows.length = s.blocks[i].irows.length + 1 ∧ LInv F H2 w { s with lb := [(y, .vec 5 ((s.blocks.set i b').map Blk.row))], blocks := s.blocks.set i b' }) → K (.c (.vsl z 4 0 (s.blocks[i].irows.length + 1))) H1) :
  appQ H 4 s.blocks[i].ic (.sl fl 4 [r]) K := by
 have hm := List.getElem_mem hi
 have kn := h.kn
 simp only [LS.L] at kn
 have kn : Kn F H [] (([(w, s.o)] ++ (s.lb ++ (s.lv ++ (s.blocks.eraseIdx i).flatMap Blk.lg))) ++ s.blocks[i].lg) := kn.perm (by
  have h1 : (s.blocks.flatMap Blk.lg).Perm ((s.blocks.eraseIdx i).flatMap Blk.lg ++ s.blocks[i].lg) := (Qf0 Blk.lg s.blocks i hi).trans List.perm_append_comm
  refine ((h1.append_left _).append_left _ |>.append_left _).trans ?_
  simp only [List.append_assoc]; exact .refl _)
 refine kn.grow (h.gi _ hm) (.mk' _ _ _ _) (by intro r' hr'; simp only [List.mem_singleton] at hr'; subst hr'; exact hr.noOw) (by simpa using hl) fun z H1 kn => ?_
 have e1 : s.blocks[i].irows.length + [r].length = s.blocks[i].irows.length + 1 := by simp
 rw [e1]
 simp only [hlb] at kn
 refine hK z H1 (kn.l 0 rfl) (kn.l 1 rfl) fun H2 h2 => ?_
 refine ⟨{ s.blocks[i] with ic := .vsl z 4 0 (s.blocks[i].irows.length + 1), irows := s.blocks[i].irows ++ [r], lg := [(z, .vec 4 (s.blocks[i].irows ++ [r]))] }, by simp, ?_⟩
 have hrow : Blk.row { s.blocks[i] with ic := .vsl z 4 0 (s.blocks[i].irows.length + 1) } = Blk.row { s.blocks[i] with ic := .vsl z 4 0 (s.blocks[i].irows.length + 1), irows := s.blocks[i].irows ++ [r], lg := [(z, .vec 4 (s.blocks[i].irows ++ [r]))] } := rfl
 rw [hrow, Q6b] at h2
 refine ⟨?_, ?_, h.gv, fun b hb => ?_, fun b hb => ?_, h.rv⟩
 ·have kn := kn.stL 1 (x := y) rfl h2
  refine kn.perm ?_
  simp only [LS.L]
  have h1 := (Qep Blk.lg s.blocks i { s.blocks[i] with ic := .vsl z 4 0 (s.blocks[i].irows.length + 1), irows := s.blocks[i].irows ++ [r], lg := [(z, .vec 4 (s.blocks[i].irows ++ [r]))] } hi).symm
  have h3 := (List.perm_append_comm.trans h1).append_left ([(w, s.o)] ++ ([(y, Obj.vec 5 ((s.blocks.set i { s.blocks[i] with ic := .vsl z 4 0 (s.blocks[i].irows.length + 1), irows := s.blocks[i].irows ++ [r], lg := [(z, .vec 4 (s.blocks[i].irows ++ [r]))] }).map Blk.row))] ++ s.lv))
  refine List.Perm.trans ?_ (h3.trans ?_)
  ·simp only [List.set, List.cons_append, List.nil_append, List.append_assoc]; exact .refl _
  ·simp only [List.cons_append, List.nil_append, List.append_assoc]; exact .refl _
 ·simp only [hbc]
  exact .mk _ _ _ (by simp)
 ·rcases Qeg hb with rfl | hb
  ·exact .mk _ _ _ (by simp)
  ·exact h.gi b hb
 ·rcases Qeg hb with rfl | hb
  ·intro r' hr'
   rcases List.mem_append.1 hr' with hr' | hr'
   ·exact h.ri _ hm r' hr'
   ·simp at hr'; subst hr'; exact hr
  ·exact h.ri b hb
theorem LInv.addVar {K : V → Heap → Prop} {fl : Bool} {r : List C} (h : LInv F H w s) (hr : VarRow r) (hl : s.vars.length + 1 ≤ LIM)
  (hK : ∀ (y : Nat) (H1 : Heap), H1 w = s.o → (∀ H2, H2 = H1.set w (LS.o { s with vc := .vsl y 3 0 (s.vars.length + 1) }) →
   LInv F H2 w { s with vc := .vsl y 3 0 (s.vars.length + 1), lv := [(y, .vec 3 (s.vars ++ [r]))], vars := s.vars ++ [r] }) → K (.c (.vsl y 3 0 (s.vars.length + 1))) H1) :
  appQ H 3 s.vc (.sl fl 3 [r]) K := by
 have hrv : ∀ r' ∈ s.vars ++ [r], VarRow r' := fun r' hr' => by
  rcases List.mem_append.1 hr' with h1 | h1
  ·exact h.rv r' h1
  ·simp at h1; subst h1; exact hr
 have kn := h.kn
 have kn : Kn F H [] (([(w, s.o)] ++ (s.lb ++ s.blocks.flatMap Blk.lg)) ++ s.lv) := kn.perm (by
  simp only [LS.L]
  refine List.Perm.trans (.append_left _ (.append_left _ List.perm_append_comm)) ?_
  simp only [List.append_assoc]; exact .refl _)
 have fin : ∀ (y : Nat) (H1 : Heap), Kn F H1 [] (([(w, s.o)] ++ (s.lb ++ s.blocks.flatMap Blk.lg)) ++ [(y, .vec 3 (s.vars ++ [r]))]) → K (.c (.vsl y 3 0 (s.vars.length + 1))) H1 := by
  intro y H1 kn
  refine hK y H1 (kn.l 0 rfl) fun H2 h2 => ⟨?_, h.gb, .inr ⟨y, s.vars ++ [r], s.vars.length + 1, rfl, by simp, by rw [List.take_of_length_le (by simp)], rfl⟩, h.gi, h.ri, hrv⟩
  have kn := kn.stL 0 (x := w) (o := s.o) rfl h2 (by simp [LS.o])
  refine kn.perm ?_
  simp only [LS.L, List.set, List.cons_append, List.nil_append, List.append_assoc]
  refine .cons _ (.append_left _ ?_)
  exact List.perm_append_comm
 refine ⟨trivial, rfl, ?_⟩
 rcases h.gv with ⟨h1, h2, h3⟩ | ⟨y, all, n, h1, h2, h3, h4⟩
 ·rw [h1]
  rw [h3, List.append_nil] at kn
  simp only [rowsOf, Go.AE.lenC, List.nil_append, List.length_nil, Nat.zero_add, List.length_singleton]
  refine ⟨trivial, .inl trivial, by intro r' hr'; simp only [List.mem_singleton] at hr'; subst hr'; exact hr.noOw, by simp only [LIM]; omega, fun l hl H' hH' => ?_⟩
  have := fin l H' (by rw [h2]; simpa using kn.al hl hH')
  rw [h2] at this; exact this
 ·rw [h4] at kn
  have hy : H y = .vec 3 all := (kn.get (y, .vec 3 all) (by simp)).1
  have hn : s.vars.length = n := by rw [h3]; simp; omega
  rw [h1]
  simp only [hy, rowsOf, Go.AE.lenC, List.drop_zero, List.length_singleton]
  refine ⟨trivial, trivial, by omega, by intro r' hr'; simp only [List.mem_singleton] at hr'; subst hr'; exact hr.noOw, by omega, fun l' hl' H' hH' => ?_⟩
  rw [← hn] at hH' ⊢
  rw [hn, ← h3] at hH'
  refine fin l' H' ?_
  have := kn.ap ([(w, s.o)] ++ (s.lb ++ s.blocks.flatMap Blk.lg)).length (y := y) (o := .vec 3 all) (by simp) hl' hH'
  simpa using this
end Go.AE.Y

namespace Go.AE.Y
structure InsD where
 op : Int
 to : Int
 args : List Int
 n : Int
def InsD.cells (x : InsD) : List C := [.int .i64 x.op, .int .i64 x.to, .sl false 1 (Qe x.args), .int .i64 x.n]
structure PhiD where
 to : Int
 args : List Int
def PhiD.cells (x : PhiD) : List C := [.int .i64 x.to, .sl false 1 (Qe x.args)]
def Qaj (l : List InsD) : List (List C) := l.map InsD.cells
def Q1 (l : List PhiD) : List (List C) := l.map PhiD.cells
structure BlkD where
 phis : List PhiD
 ins : List InsD
 jump : Int
 on : Int
 next : List Int
def BlkD.cells (x : BlkD) : List C := [.sl false 2 (Q1 x.phis), .sl false 4 (Qaj x.ins), .int .i64 x.jump, .int .i64 x.on, .sl false 1 (Qe x.next)]
def Ql (l : List BlkD) : List (List C) := l.map BlkD.cells
structure CodeD where
 params : Int
 regs : Int
 blocks : List BlkD
def CodeD.cells (x : CodeD) : List C := [.int .i64 x.params, .int .i64 x.regs, .sl false 5 (Ql x.blocks)]
def Qm (l : List CodeD) : List (List C) := l.map CodeD.cells
theorem Qab (l : List InsD) : (Qaj l).length = l.length := by simp [Qaj]
theorem Qy (l : List PhiD) : (Q1 l).length = l.length := by simp [Q1]
theorem Qn (l : List BlkD) : (Ql l).length = l.length := by simp [Ql]
theorem Qs (l : List CodeD) : (Qm l).length = l.length := by simp [Qm]
theorem Qa9 (l : List InsD) (i : Nat) (h : i < l.length) : (Qaj l).getD i [] = (l[i]'h).cells := by simp [Qaj, List.getD_eq_getElem?_getD, h]
theorem Qa2 (l : List PhiD) (i : Nat) (h : i < l.length) : (Q1 l).getD i [] = (l[i]'h).cells := by simp [Q1, List.getD_eq_getElem?_getD, h]
theorem Q5 (l : List BlkD) (i : Nat) (h : i < l.length) : (Ql l).getD i [] = (l[i]'h).cells := by simp [Ql, List.getD_eq_getElem?_getD, h]
theorem Q7 (l : List CodeD) (i : Nat) (h : i < l.length) : (Qm l).getD i [] = (l[i]'h).cells := by simp [Qm, List.getD_eq_getElem?_getD, h]
theorem Qfw (l : List InsD) : ∀ r ∈ Qaj l, noOw r = true := by intro r hr; obtain ⟨x, _, rfl⟩ := List.mem_map.1 hr; rfl
theorem Q6d (l : List PhiD) : ∀ r ∈ Q1 l, noOw r = true := by intro r hr; obtain ⟨x, _, rfl⟩ := List.mem_map.1 hr; rfl
theorem Qaq5 (l : List BlkD) : ∀ r ∈ Ql l, noOw r = true := by intro r hr; obtain ⟨x, _, rfl⟩ := List.mem_map.1 hr; rfl
theorem Qbx (l : List CodeD) : ∀ r ∈ Qm l, noOw r = true := by intro r hr; obtain ⟨x, _, rfl⟩ := List.mem_map.1 hr; rfl
theorem Qamo (a : List CodeD) (x : CodeD) : Qm a ++ [x.cells] = Qm (a ++ [x]) := by simp [Qm]
theorem Qay3 (a : List InsD) (x : InsD) : Qaj a ++ [x.cells] = Qaj (a ++ [x]) := by simp [Qaj]
variable {H : Heap} {S : Nat → Bool}
theorem Gr.frzM {Lg : List (Nat × Obj)} {sz : Nat} {rows rows' : List (List C)} {c : C} (h : Gr Lg sz rows c) (hm : ∀ p ∈ Lg, H p.1 = p.2 ∧ S p.1 = true) (hr : FrzR H S rows rows') : FrzC H S c (.sl false sz rows') := by
 rcases h with ⟨rfl, rfl, rfl⟩ | ⟨y, rfl, rfl⟩
 ·cases hr; exact FrzR.nil.sl
 ·obtain ⟨h1, h2⟩ := hm (y, .vec sz rows) (by simp)
  exact hr.vsl h2 h1 rfl
theorem InsRow.frz {r : List C} (h : InsRow r) : ∃ d : InsD, FrzL H S r d.cells := by
 obtain ⟨op, to, n, fl, args, rfl⟩ := h
 exact ⟨⟨op, to, args, n⟩, .cons (Qi rfl) (.cons (Qi rfl) (.cons (FrzR.same (Qx _)).sl (.cons (Qi rfl) .nil)))⟩
def CodeD.fits (c : CodeD) : Prop := ∀ b ∈ c.blocks, b.ins.length ≤ 2^38 ∧ b.phis.length ≤ 2^38
theorem Q5y : ∀ (l : List (List C)), (∀ r ∈ l, InsRow r) → ∃ ds : List InsD, FrzR H S l (Qaj ds)
 | [], _ => ⟨[], .nil⟩
 | r :: l, h => by
  obtain ⟨d, hd⟩ := (h r List.mem_cons_self).frz (H := H) (S := S)
  obtain ⟨ds, hds⟩ := Q5y l fun r' hr' => h r' (List.mem_cons_of_mem _ hr')
  exact ⟨d :: ds, .cons hd hds⟩
theorem Qaxj : ∀ (l : List Blk), (∀ b ∈ l, Gr b.lg 4 b.irows b.ic ∧ (∀ r ∈ b.irows, InsRow r) ∧ (∀ p ∈ b.lg, H p.1 = p.2 ∧ S p.1 = true) ∧ b.irows.length ≤ 2^38) →
  ∃ bs : List BlkD, FrzR H S (l.map Blk.row) (Ql bs) ∧ bs.length = l.length ∧ ∀ b ∈ bs, b.ins.length ≤ 2^38 ∧ b.phis.length ≤ 2^38
 | [], _ => ⟨[], .nil, rfl, by simp⟩
 | b :: l, h => by
  obtain ⟨g1, g2, g3, g4⟩ := h b List.mem_cons_self
  obtain ⟨bs, h1, h2, h3⟩ := Qaxj l fun r' hr' => h r' (List.mem_cons_of_mem _ hr')
  obtain ⟨ds, hds⟩ := Q5y (H := H) (S := S) b.irows g2
  have hdl := hds.spec.1
  rw [Qab] at hdl
  refine ⟨⟨[], ds, b.jump, b.on, b.next⟩ :: bs, .cons ?_ h1, by simp [h2], fun b' hb' => ?_⟩
  ·exact .cons FrzR.nil.sl (.cons (Gr.frzM g1 g3 hds) (.cons (Qi rfl) (.cons (Qi rfl) (.cons (FrzR.same (Qx _)).sl .nil))))
  ·rcases List.mem_cons.1 hb' with rfl | hb'
   ·exact ⟨by show ds.length ≤ _; omega, by simp⟩
   ·exact h3 b' hb'
end Go.AE.Y

namespace Go.AE
variable {H0 H H' F : Heap} {E L B A : List (Nat × Obj)}
theorem Kn.toFrame {y : Nat} {o : Obj} (kn : Kn F H [] (L ++ [(y, o)])) : Kn (F.set y o) H [] L := by
 have hnd := kn.dL
 rw [List.map_append] at hnd
 have hne : ∀ p ∈ L, p.1 ≠ y := fun p hp hh => (List.nodup_append.1 hnd).2.2 _ (Qbc hp) y (by simp) hh
 refine ⟨fun p hp => kn.get p (by simp only [List.nil_append] at hp ⊢; exact List.mem_append_left _ hp), by simp, fun p hp => ?_, by simp, (List.nodup_append.1 hnd).1, fun m hm _ => ?_⟩
 ·rw [Heap.set_other _ _ (hne p hp)]; exact kn.loc p (List.mem_append_left _ hp)
 ·by_cases h : m = y
  ·subst h; rw [Heap.set_same]; exact (kn.get (m, o) (by simp)).1
  ·rw [Heap.set_other _ _ h] at hm ⊢; exact kn.chg m hm (by simp)
theorem Kn.ofFrame {y : Nat} {o : Obj} (kn : Kn (F.set y o) H [] L) (hF : F y = .none) (ho : o ≠ .none) : Kn F H [] (L ++ [(y, o)]) := by
 have hy : H y = o := by have := kn.chg y (by rw [Heap.set_same]; exact ho) (by simp); rw [this, Heap.set_same]
 have hne : ∀ p ∈ L, p.1 ≠ y := fun p hp hh => by have := kn.loc p hp; rw [hh, Heap.set_same] at this; exact ho this
 refine ⟨fun p hp => ?_, by simp, fun p hp => ?_, by simp, ?_, fun m hm _ => ?_⟩
 ·simp only [List.nil_append] at hp
  rcases List.mem_append.1 hp with hp | hp
  ·exact kn.get p (by simpa using hp)
  ·simp at hp; subst hp; exact ⟨hy, ho⟩
 ·rcases List.mem_append.1 hp with hp | hp
  ·have := kn.loc p hp; rw [Heap.set_other _ _ (hne p hp)] at this; exact this
  ·simp at hp; subst hp; exact hF
 ·rw [List.map_append]
  refine List.nodup_append.2 ⟨kn.dL, by simp, fun a ha b hb => ?_⟩
  simp at hb; subst hb
  obtain ⟨p, hp, rfl⟩ := List.mem_map.1 ha
  exact hne p hp
 ·have hmy : m ≠ y := fun h => by subst h; exact hm hF
  have := kn.chg m (by rw [Heap.set_other _ _ hmy]; exact hm) (by simp)
  rw [this, Heap.set_other _ _ hmy]
theorem Kn.frz1 {z : Nat} {o : Obj} (kn : Kn H0 H E (B ++ [(z, o)])) : Kn H0 (H.frz fun m => m == z) E B := by
 have hzf : H0 z = .none := kn.loc (z, o) (by simp)
 have hnd := kn.dL
 rw [List.map_append] at hnd
 have hne : ∀ p ∈ B, p.1 ≠ z := fun p hp hh => (List.nodup_append.1 hnd).2.2 _ (Qbc hp) z (by simp) hh
 have hneE : ∀ p ∈ E, p.1 ≠ z := fun p hp hh => kn.ext p hp (hh ▸ hzf)
 refine ⟨fun p hp => ?_, kn.ext, fun p hp => kn.loc p (List.mem_append_left _ hp), kn.dE, (List.nodup_append.1 hnd).1, fun m hm hx => ?_⟩
 ·have : p.1 ≠ z := by
   rcases List.mem_append.1 hp with h | h
   ·exact hneE p h
   ·exact hne p h
  have h2 : (H.frz fun m => m == z) p.1 = H p.1 := by simp [Heap.frz, this]
  rw [h2]
  refine kn.get p ?_
  rcases List.mem_append.1 hp with h | h
  ·exact List.mem_append_left _ h
  ·exact List.mem_append_right _ (List.mem_append_left _ h)
 ·have : m ≠ z := fun h => hm (h ▸ hzf)
  have h2 : (H.frz fun m => m == z) m = H m := by simp [Heap.frz, this]
  rw [h2]; exact kn.chg m hm hx
theorem Gr.freeze {Lg : List (Nat × Obj)} {sz : Nat} {rows : List (List C)} {c : C} (h : Gr Lg sz rows c) (kn : Kn H0 H E (B ++ Lg)) (hr : ∀ r ∈ rows, noOw r = true) :
  ∃ S H2, FrzC H S c (.sl false sz rows) ∧ FrzH H S H2 ∧ Kn H0 H2 E B := by
 rcases h with ⟨rfl, rfl, rfl⟩ | ⟨y, rfl, rfl⟩
 ·refine ⟨fun _ => false, H, Y.FrzR.nil.sl, fun m => .inr ⟨rfl, .same _⟩, by simpa using kn⟩
 ·exact ⟨fun m => m == y, _, (Y.FrzR.same hr).vsl (by simp) (kn.get (y, .vec sz rows) (by simp)).1 rfl, Qdq _ _, kn.frz1⟩
end Go.AE
namespace Go.AE.Y
variable {F H H' : Heap} {w : Nat} {s : LS} {Lg : List (Nat × Obj)} {sz : Nat} {rows : List (List C)} {c : C}
theorem LInv.re {H2 : Heap} (h : LInv F H w s) (kn : Kn F H2 [] (s.L w)) : LInv F H2 w s := ⟨kn, h.gb, h.gv, h.gi, h.ri, h.rv⟩
theorem LInv.beside (h : LInv F H w s) (kn : Kn F H [] (s.L w ++ Lg)) (hg : Gr Lg sz rows c) :
  ∃ F', LInv F' H w s ∧ ∀ (s' : LS) (H' : Heap), LInv F' H' w s' → LInv F H' w s' ∧ Kn F H' [] (s'.L w ++ Lg) := by
 rcases hg with ⟨_, _, rfl⟩ | ⟨y, _, rfl⟩
 ·exact ⟨F, h, fun s' H' h' => ⟨h', by simpa using h'.kn⟩⟩
 ·refine ⟨F.set y (.vec sz rows), ⟨kn.toFrame, h.gb, h.gv, h.gi, h.ri, h.rv⟩, fun s' H' h' => ?_⟩
  have k2 := h'.kn.ofFrame (kn.loc (y, .vec sz rows) (by simp)) (by simp)
  exact ⟨⟨k2.drop, h'.gb, h'.gv, h'.gi, h'.ri, h'.rv⟩, k2⟩
end Go.AE.Y

namespace Go.AE
variable {H0 H H' : Heap} {E L N B : List (Nat × Obj)}
theorem Kn.comp0 (kn : Kn H0 H E L) (k2 : Kn H H' [] N) : Kn H0 H' E (L ++ N) := by
 have hne : ∀ p ∈ E ++ L, H p.1 ≠ .none := fun p hp => by obtain ⟨a, b⟩ := kn.get p hp; rw [a]; exact b
 refine ⟨fun p hp => ?_, kn.ext, fun p hp => ?_, kn.dE, ?_, fun m hm hx => ?_⟩
 ·rw [← List.append_assoc] at hp
  rcases List.mem_append.1 hp with hp | hp
  ·obtain ⟨a, b⟩ := kn.get p hp
   exact ⟨by rw [k2.chg p.1 (hne p hp) (by simp), a], b⟩
  ·exact k2.get p (by simpa using hp)
 ·rcases List.mem_append.1 hp with hp | hp
  ·exact kn.loc p hp
  ·exact (kn.newFree (k2.loc p hp)).1
 ·rw [List.map_append]
  refine List.nodup_append.2 ⟨kn.dL, k2.dL, fun a ha b hb hab => ?_⟩
  obtain ⟨p, hp, rfl⟩ := List.mem_map.1 ha
  obtain ⟨q, hq, rfl⟩ := List.mem_map.1 hb
  exact hne p (List.mem_append_right _ hp) (by rw [hab]; exact k2.loc q hq)
 ·have := kn.chg m hm hx
  rw [k2.chg m (by rw [this]; exact hm) (by simp), this]
theorem Kn.compE (kn : Kn H0 H E L) (i : Nat) {l : Nat} {o o' : Obj} (h : E[i]? = some (l, o)) (k2 : Kn H H' [(l, o')] N) : Kn H0 H' (E.set i (l, o')) (L ++ N) := by
 have hne : ∀ p ∈ E ++ L, H p.1 ≠ .none := fun p hp => by obtain ⟨a, b⟩ := kn.get p hp; rw [a]; exact b
 have hl : H' l = o' ∧ o' ≠ .none := k2.get (l, o') (by simp)
 have hu : Upd H H' [(l, o')] := ⟨fun p hp => by simp at hp; subst hp; exact hl.1, fun m hm hx => k2.chg m hm hx⟩
 have k3 := kn.callE i h hu hl.2
 refine ⟨fun p hp => ?_, k3.ext, fun p hp => ?_, k3.dE, ?_, k3.chg⟩
 ·rw [← List.append_assoc] at hp
  rcases List.mem_append.1 hp with hp | hp
  ·exact k3.get p hp
  ·exact k2.get p (List.mem_append_right _ hp)
 ·rcases List.mem_append.1 hp with hp | hp
  ·exact kn.loc p hp
  ·exact (kn.newFree (k2.loc p hp)).1
 ·rw [List.map_append]
  refine List.nodup_append.2 ⟨kn.dL, k2.dL, fun a ha b hb hab => ?_⟩
  obtain ⟨p, hp, rfl⟩ := List.mem_map.1 ha
  obtain ⟨q, hq, rfl⟩ := List.mem_map.1 hb
  exact hne p (List.mem_append_right _ hp) (by rw [hab]; exact k2.loc q hq)
theorem Kn.finK (hk : Kn H0 H E (B ++ N)) : Kn H0 (H.frz (Go.AE.unx H0 N)) E N := by
 obtain ⟨h1, h2⟩ := hk.finx
 have hd := hk.dL
 rw [List.map_append] at hd
 refine ⟨fun p hp => ?_, hk.ext, fun p hp => hk.loc p (List.mem_append_right _ hp), hk.dE, (List.nodup_append.1 hd).2.1, h1.2⟩
 rcases List.mem_append.1 hp with hp | hp
 ·exact ⟨h1.1 p hp, (hk.get p (List.mem_append_left _ hp)).2⟩
 ·exact ⟨(h2 p hp).2, (hk.get p (List.mem_append_right _ (List.mem_append_right _ hp))).2⟩
end Go.AE
namespace Go.AE.Y
structure OInts where
 ns : List Int
 y : Nat
def OInts.c (x : OInts) : C := .vsl x.y 1 0 x.ns.length
def OInts.lg (x : OInts) : List (Nat × Obj) := [(x.y, .vec 1 (Qe x.ns))]
structure OPhi where
 to : Int
 ns : List Int
 ac : C
 lg : List (Nat × Obj)
def OPhi.row (x : OPhi) : List C := [.int .i64 x.to, x.ac]
def OPhi.ok (x : OPhi) : Prop := (∃ y, x.ac = .vsl y 1 0 x.ns.length ∧ x.lg = [(y, .vec 1 (Qe x.ns))]) ∨ (∃ fl, x.ac = .sl fl 1 (Qe x.ns) ∧ x.lg = [])
structure OIns where
 op : Int
 to : Int
 a : OInts
 n : Int
def OIns.row (x : OIns) : List C := [.int .i64 x.op, .int .i64 x.to, x.a.c, .int .i64 x.n]
def OIns.lg (x : OIns) : List (Nat × Obj) := x.a.lg
structure OBlk where
 phis : List OPhi
 pc : C
 pl : List (Nat × Obj)
 ins : List OIns
 ic : C
 il : List (Nat × Obj)
 jump : Int
 on : Int
 nx : OInts
def OBlk.row (x : OBlk) : List C := [x.pc, x.ic, .int .i64 x.jump, .int .i64 x.on, x.nx.c]
def OBlk.lg (x : OBlk) : List (Nat × Obj) := x.nx.lg ++ (x.phis.flatMap OPhi.lg ++ (x.pl ++ (x.ins.flatMap OIns.lg ++ x.il)))
structure OBlk.ok (x : OBlk) : Prop where
 p : Gr x.pl 2 (x.phis.map OPhi.row) x.pc
 i : Gr x.il 4 (x.ins.map OIns.row) x.ic
 a : ∀ p ∈ x.phis, p.ok
structure OCode where
 params : Int
 regs : Int
 blocks : List OBlk
 bc : C
 bl : List (Nat × Obj)
def OCode.row (x : OCode) : List C := [.int .i64 x.params, .int .i64 x.regs, x.bc]
def OCode.lg (x : OCode) : List (Nat × Obj) := x.blocks.flatMap OBlk.lg ++ x.bl
structure OCode.ok (x : OCode) : Prop where
 b : Gr x.bl 5 (x.blocks.map OBlk.row) x.bc
 bs : ∀ b ∈ x.blocks, b.ok
theorem OPhi.noOw (x : OPhi) (h : x.ok) : Go.AE.noOw x.row = true := by
 rcases h with ⟨y, h, _⟩ | ⟨fl, h, _⟩ <;> simp only [Go.AE.noOw, OPhi.row, h] <;> rfl
theorem OIns.noOw (x : OIns) : Go.AE.noOw x.row = true := rfl
theorem OBlk.noOw (x : OBlk) (h : x.ok) : Go.AE.noOw x.row = true := by
 simp only [Go.AE.noOw, OBlk.row, OInts.c, List.all_cons, List.all_nil, h.p.isOw, h.i.isOw]; rfl
theorem OCode.noOw (x : OCode) (h : x.ok) : Go.AE.noOw x.row = true := by
 simp only [Go.AE.noOw, OCode.row, List.all_cons, List.all_nil, h.b.isOw]; rfl
variable {H : Heap} {S : Nat → Bool}
def Held (H : Heap) (S : Nat → Bool) (l : List (Nat × Obj)) : Prop := ∀ p ∈ l, H p.1 = p.2 ∧ S p.1 = true
theorem Held.l {a b : List (Nat × Obj)} (h : Held H S (a ++ b)) : Held H S a := fun p hp => h p (List.mem_append_left _ hp)
theorem Held.r {a b : List (Nat × Obj)} (h : Held H S (a ++ b)) : Held H S b := fun p hp => h p (List.mem_append_right _ hp)
theorem Held.m {α : Type} {f : α → List (Nat × Obj)} {l : List α} (h : Held H S (l.flatMap f)) {x : α} (hx : x ∈ l) : Held H S (f x) := fun p hp => h p (List.mem_flatMap.2 ⟨x, hx, hp⟩)
theorem OInts.frz (x : OInts) (h : Held H S x.lg) : FrzC H S x.c (.sl false 1 (Qe x.ns)) := by
 obtain ⟨h1, h2⟩ := h (x.y, .vec 1 (Qe x.ns)) (by simp [OInts.lg])
 exact (FrzR.same (Qx _)).vsl h2 h1 (by simp [Qe])
theorem OPhi.frz (x : OPhi) (hok : x.ok) (h : Held H S x.lg) : FrzL H S x.row (PhiD.mk x.to x.ns).cells := by
 refine .cons (Qi rfl) (.cons ?_ .nil)
 rcases hok with ⟨y, h1, h2⟩ | ⟨fl, h1, h2⟩
 ·obtain ⟨h3, h4⟩ := h (y, .vec 1 (Qe x.ns)) (by rw [h2]; simp)
  rw [h1]; exact (FrzR.same (Qx _)).vsl h4 h3 (by simp [Qe])
 ·rw [h1]; exact (FrzR.same (Qx _)).sl
theorem OIns.frz (x : OIns) (h : Held H S x.lg) : FrzL H S x.row (InsD.mk x.op x.to x.a.ns x.n).cells := .cons (Qi rfl) (.cons (Qi rfl) (.cons (x.a.frz h) (.cons (Qi rfl) .nil)))
theorem Qarf {α β : Type} {f : α → List C} {g : β → List C} : ∀ (l : List α), (∀ x ∈ l, ∃ y, FrzL H S (f x) (g y)) → ∃ l' : List β, FrzR H S (l.map f) (l'.map g) ∧ l'.length = l.length
 | [], _ => ⟨[], .nil, rfl⟩
 | x :: l, h => by
  obtain ⟨y, hy⟩ := h x List.mem_cons_self
  obtain ⟨l', hl', hn⟩ := Qarf l fun z hz => h z (List.mem_cons_of_mem _ hz)
  exact ⟨y :: l', .cons hy hl', by simp [hn]⟩
theorem Qr7 {α β : Type} {P : β → Prop} {f : α → List C} {g : β → List C} : ∀ (l : List α), (∀ x ∈ l, ∃ y, FrzL H S (f x) (g y) ∧ P y) → ∃ l' : List β, FrzR H S (l.map f) (l'.map g) ∧ l'.length = l.length ∧ ∀ y ∈ l', P y
 | [], _ => ⟨[], .nil, rfl, by simp⟩
 | x :: l, h => by
  obtain ⟨y, hy, hp⟩ := h x List.mem_cons_self
  obtain ⟨l', hl', hn, hps⟩ := Qr7 l fun z hz => h z (List.mem_cons_of_mem _ hz)
  refine ⟨y :: l', .cons hy hl', by simp [hn], fun z hz => ?_⟩
  rcases List.mem_cons.1 hz with rfl | hz
  ·exact hp
  ·exact hps z hz
theorem OBlk.frz (x : OBlk) (hok : x.ok) (h : Held H S x.lg) : ∃ d : BlkD, FrzL H S x.row d.cells ∧ d.next = x.nx.ns ∧ d.ins.length = x.ins.length ∧ d.phis.length = x.phis.length := by
 obtain ⟨ps, hps, hpn⟩ := Qarf (H := H) (S := S) (f := OPhi.row) (g := PhiD.cells) x.phis fun p hp => ⟨_, p.frz (hok.a p hp) (h.r.l.m hp)⟩
 obtain ⟨is, his, hin⟩ := Qarf (H := H) (S := S) (f := OIns.row) (g := InsD.cells) x.ins fun p hp => ⟨_, p.frz (h.r.r.r.l.m hp)⟩
 exact ⟨⟨ps, is, x.jump, x.on, x.nx.ns⟩, .cons (Gr.frzM hok.p h.r.r.l hps) (.cons (Gr.frzM hok.i h.r.r.r.r his) (.cons (Qi rfl) (.cons (Qi rfl) (.cons (x.nx.frz h.l) .nil)))), rfl, hin, hpn⟩
end Go.AE.Y

namespace Go.AE.Y
theorem Qang {α : Type} {A L1 L2 : List α} : (A ++ L1 ++ L2).Perm (A ++ L2 ++ L1) := by
 rw [List.append_assoc, List.append_assoc]
 exact .append_left _ List.perm_append_comm
structure BlkD.sm (b : BlkD) : Prop where
 n : b.next.length ≤ 2
 i : b.ins.length ≤ 1000
 p : b.phis.length ≤ 1000
 ia : ∀ x ∈ b.ins, x.args.length ≤ 1000
 pa : ∀ x ∈ b.phis, x.args.length ≤ 1000
structure CodeD.sm (c : CodeD) : Prop where
 b0 : 0 < c.blocks.length
 b : c.blocks.length ≤ 160
 bs : ∀ b ∈ c.blocks, b.sm
 p0 : 0 ≤ c.params
 p1 : c.params ≤ 1000
structure OBlk.sm (b : OBlk) (N : Nat) : Prop where
 n : b.nx.ns.length ≤ 2
 i : b.ins.length ≤ 1000
 p : b.phis.length ≤ N
 ia : ∀ x ∈ b.ins, x.a.ns.length ≤ N
structure OCode.sm (c : OCode) (N : Nat) : Prop where
 b0 : 0 < c.blocks.length
 b : c.blocks.length ≤ 160
 bs : ∀ b ∈ c.blocks, b.sm N
 p0 : 0 ≤ c.params
 p1 : c.params ≤ 1000
theorem OBlk.sm.mono {b : OBlk} {N M : Nat} (h : b.sm N) (hm : N ≤ M) : b.sm M := ⟨h.n, h.i, by have := h.p; omega, fun x hx => by have := h.ia x hx; omega⟩
theorem OCode.sm.mono {c : OCode} {N M : Nat} (h : c.sm N) (hm : N ≤ M) : c.sm M := ⟨h.b0, h.b, fun b hb => (h.bs b hb).mono hm, h.p0, h.p1⟩
structure CodeD.gd (c : CodeD) : Prop where
 b0 : 0 < c.blocks.length
 b1 : c.blocks.length ≤ 160
 n : ∀ b ∈ c.blocks, b.next.length ≤ 2
 f : c.fits
theorem CodeD.sm.fits {c : CodeD} (h : c.sm) : c.fits := fun b hb => ⟨by have := (h.bs b hb).i; omega, by have := (h.bs b hb).p; omega⟩
theorem CodeD.sm.gd {c : CodeD} (h : c.sm) : c.gd := ⟨h.b0, h.b, fun b hb => (h.bs b hb).n, h.fits⟩
variable {H : Heap} {S : Nat → Bool}
theorem OCode.frz (x : OCode) {N : Nat} (hN : N ≤ 100000) (hok : x.ok) (hs : x.sm N) (h : Held H S x.lg) : ∃ d : CodeD, FrzL H S x.row d.cells ∧ d.gd := by
 obtain ⟨bs, hbs, hbn, hbp⟩ := Qr7 (H := H) (S := S) (P := fun d : BlkD => d.next.length ≤ 2 ∧ d.ins.length ≤ 2^38 ∧ d.phis.length ≤ 2^38) (f := OBlk.row) (g := BlkD.cells) x.blocks fun b hb => by
  obtain ⟨d, h1, h2, h3, h4⟩ := b.frz (hok.bs b hb) (h.l.m hb)
  have hsb := hs.bs b hb
  exact ⟨d, h1, by rw [h2]; exact hsb.n, by have := hsb.i; omega, by have := hsb.p; omega⟩
 have hb0 := hs.b0
 have hb1 := hs.b
 exact ⟨⟨x.params, x.regs, bs⟩, .cons (Qi rfl) (.cons (Qi rfl) (.cons (Gr.frzM hok.b h.r hbs) .nil)), by show 0 < bs.length; omega, by show bs.length ≤ _; omega, fun b hb => (hbp b hb).1, fun b hb => (hbp b hb).2⟩
theorem OCodes.frz {N : Nat} (hN : N ≤ 100000) {us : List OCode} {cc : C} {cl : List (Nat × Obj)} (hg : Gr cl 3 (us.map OCode.row) cc) (hu : ∀ u ∈ us, u.ok ∧ u.sm N) (h : Held H S (us.flatMap OCode.lg ++ cl)) :
  ∃ cs : List CodeD, FrzC H S cc (.sl false 3 (Qm cs)) ∧ cs.length = us.length ∧ ∀ c ∈ cs, c.gd := by
 obtain ⟨cs, h1, h2, h3⟩ := Qr7 (H := H) (S := S) (P := CodeD.gd) (f := OCode.row) (g := CodeD.cells) us fun u hu2 => u.frz hN (hu u hu2).1 (hu u hu2).2 (h.l.m hu2)
 exact ⟨cs, Gr.frzM hg h.r h1, h2, h3⟩
end Go.AE.Y

namespace Go.AE
variable {P : Program}
theorem Qdm {a b : SC} {Q : X → Env → Heap → Prop} {e : Env} {H : Heap} (T : Env → Heap → Prop) (h1 : ∀ Q' : X → Env → Heap → Prop, (∀ e H, T e H → Q' .nrm e H) → (∀ e H, Q .ret e H → Q' .ret e H) → (∀ i e H, Q (.exit i) e H → Q' (.exit i) e H) → Qah P a Q' e H)
  (h2 : ∀ e H, T e H → Qah P b Q e H) : Qah P (.seq a b) Q e H := h1 (X.sq P b Q) h2 (fun _ _ h => h) (fun _ _ _ h => h)
end Go.AE
namespace Go.AE.Y
structure UPhi where
 to : Int
 ns : List Int
 ac : C
 al : List (Nat × Obj)
def UPhi.row (x : UPhi) : List C := [.int .i64 x.to, x.ac]
structure UBlk where
 phis : List UPhi
 pc : C
 pl : List (Nat × Obj)
 ins : List InsD
 ic : C
 il : List (Nat × Obj)
 jump : Int
 on : Int
 nfl : Bool
 next : List Int
def UBlk.row (x : UBlk) : List C := [x.pc, x.ic, .int .i64 x.jump, .int .i64 x.on, .sl x.nfl 1 (Qe x.next)]
def UBlk.lg (x : UBlk) : List (Nat × Obj) := x.il ++ (x.phis.flatMap UPhi.al ++ x.pl)
structure UBlk.ok (x : UBlk) : Prop where
 p : Gr x.pl 2 (x.phis.map UPhi.row) x.pc
 i : Gr x.il 4 (Qaj x.ins) x.ic
 a : ∀ p ∈ x.phis, Gr p.al 1 (Qe p.ns) p.ac
structure UBlk.sm (b : UBlk) (N : Nat) : Prop where
 n : b.next.length ≤ 2
 i : b.ins.length ≤ 1000
 p : b.phis.length ≤ N
 ia : ∀ x ∈ b.ins, x.args.length ≤ 1000
 pa : ∀ x ∈ b.phis, x.ns.length ≤ 1000
structure UCode where
 params : Int
 regs : Int
 blocks : List UBlk
 bc : C
 bl : List (Nat × Obj)
def UCode.row (x : UCode) : List C := [.int .i64 x.params, .int .i64 x.regs, x.bc]
def UCode.lg (x : UCode) : List (Nat × Obj) := x.blocks.flatMap UBlk.lg ++ x.bl
structure UCode.ok (x : UCode) : Prop where
 b : Gr x.bl 5 (x.blocks.map UBlk.row) x.bc
 bs : ∀ b ∈ x.blocks, b.ok
 p0 : 0 ≤ x.params
 p1 : x.params ≤ 3
structure UCode.sm (c : UCode) (N : Nat) : Prop where
 b0 : 0 < c.blocks.length
 b : c.blocks.length ≤ 160
 bs : ∀ b ∈ c.blocks, b.sm N
theorem UPhi.noOw (x : UPhi) (h : Gr x.al 1 (Qe x.ns) x.ac) : Go.AE.noOw x.row = true := by
 simp only [Go.AE.noOw, UPhi.row, List.all_cons, List.all_nil, h.isOw]; rfl
theorem UBlk.noOw (x : UBlk) (h : x.ok) : Go.AE.noOw x.row = true := by
 simp only [Go.AE.noOw, UBlk.row, List.all_cons, List.all_nil, h.p.isOw, h.i.isOw]; rfl
theorem UCode.noOw (x : UCode) (h : x.ok) : Go.AE.noOw x.row = true := by
 simp only [Go.AE.noOw, UCode.row, List.all_cons, List.all_nil, h.b.isOw]; rfl
theorem UPhi.len2 (x : UPhi) : x.row.length = 2 := rfl
theorem UBlk.len5 (x : UBlk) : x.row.length = 5 := rfl
theorem UCode.len3 (x : UCode) : x.row.length = 3 := rfl
theorem UBlk.sm.mono {b : UBlk} {N M : Nat} (h : b.sm N) (hm : N ≤ M) : b.sm M := ⟨h.n, h.i, by have := h.p; omega, h.ia, h.pa⟩
theorem UCode.sm.mono {c : UCode} {N M : Nat} (h : c.sm N) (hm : N ≤ M) : c.sm M := ⟨h.b0, h.b, fun b hb => (h.bs b hb).mono hm⟩
variable {H : Heap} {S : Nat → Bool}
theorem UBlk.frz (x : UBlk) {N : Nat} (hN : N ≤ 1000) (hok : x.ok) (hs : x.sm N) (h : Held H S x.lg) : ∃ d : BlkD, FrzL H S x.row d.cells ∧ d.sm := by
 obtain ⟨ps, hps, hpn, hpp⟩ := Qr7 (H := H) (S := S) (P := fun p : PhiD => p.args.length ≤ 1000) (f := UPhi.row) (g := PhiD.cells) x.phis fun p hp =>
  ⟨⟨p.to, p.ns⟩, .cons (Qi rfl) (.cons (Gr.frzM (hok.a p hp) (h.r.l.m hp) (FrzR.same (Qx _))) .nil), hs.pa p hp⟩
 have h1 := hs.n
 have h2 := hs.i
 have h3 := hs.p
 exact ⟨⟨ps, x.ins, x.jump, x.on, x.next⟩, .cons (Gr.frzM hok.p h.r.r hps) (.cons (Gr.frzM hok.i h.l (FrzR.same (Qfw _))) (.cons (Qi rfl) (.cons (Qi rfl) (.cons (FrzR.same (Qx _)).sl .nil)))),
  h1, h2, by show ps.length ≤ _; omega, hs.ia, hpp⟩
theorem UCode.frz (x : UCode) {N : Nat} (hN : N ≤ 1000) (hok : x.ok) (hs : x.sm N) (h : Held H S x.lg) : ∃ d : CodeD, FrzL H S x.row d.cells ∧ d.sm := by
 obtain ⟨bs, hbs, hbn, hbp⟩ := Qr7 (H := H) (S := S) (P := BlkD.sm) (f := UBlk.row) (g := BlkD.cells) x.blocks fun b hb => b.frz hN (hok.bs b hb) (hs.bs b hb) (h.l.m hb)
 have hb0 := hs.b0
 have hb1 := hs.b
 exact ⟨⟨x.params, x.regs, bs⟩, .cons (Qi rfl) (.cons (Qi rfl) (.cons (Gr.frzM hok.b h.r hbs) .nil)), by show 0 < bs.length; omega, by show bs.length ≤ _; omega, hbp, hok.p0, by have := hok.p1; show x.params ≤ _; omega⟩
theorem UCodes.frz {us : List UCode} {N : Nat} (hN : N ≤ 1000) {cc : C} {cl : List (Nat × Obj)} (hg : Gr cl 3 (us.map UCode.row) cc) (hu : ∀ u ∈ us, u.ok ∧ u.sm N) (h : Held H S (us.flatMap UCode.lg ++ cl)) :
  ∃ cs : List CodeD, FrzC H S cc (.sl false 3 (Qm cs)) ∧ cs.length = us.length ∧ ∀ c ∈ cs, c.sm := by
 obtain ⟨cs, h1, h2, h3⟩ := Qr7 (H := H) (S := S) (P := CodeD.sm) (f := UCode.row) (g := CodeD.cells) us fun u hu2 => u.frz hN (hu u hu2).1 (hu u hu2).2 (h.l.m hu2)
 exact ⟨cs, Gr.frzM hg h.r h1, h2, h3⟩
end Go.AE.Y

namespace Go.AE.Y
theorem Qr {α : Type} {l1 l2 : List α} (h : ∀ f : List α → Nat, (∀ a b, f (a ++ b) = f a + f b) → f [] = 0 → (∀ x l, f (x :: l) = f [x] + f l) → (∀ a b : List α, a.Perm b → f a = f b) → f l1 = f l2) : l1.Perm l2 := by
 classical
 exact List.perm_iff_count.2 fun a => h (List.count a) (fun _ _ => List.count_append) rfl (fun x l => by rw [List.count_cons, List.count_cons]; simp; omega) (fun _ _ hp => hp.count_eq a)
def UBlk.core (x : UBlk) : List (Nat × Obj) := x.il ++ x.phis.flatMap UPhi.al
def Qamg (us : List UCode) (ci bi : Nat) (hc : ci < us.length) : List (Nat × Obj) := (us[ci].blocks.eraseIdx bi).flatMap UBlk.lg ++ (us.eraseIdx ci).flatMap UCode.lg
theorem Qa8z (us : List UCode) (ci bi : Nat) (hc : ci < us.length) (hb : bi < us[ci].blocks.length) :
  (us.flatMap UCode.lg).Perm (us[ci].bl ++ (us[ci].blocks[bi].pl ++ (us[ci].blocks[bi].core ++ Qamg us ci bi hc))) := by
 refine Qr fun f hf h0 hc1 hp => ?_
 rw [hp _ _ (Qf0 UCode.lg us ci hc)]
 simp only [hf, UCode.lg, Qamg]
 rw [hp _ _ (Qf0 UBlk.lg us[ci].blocks bi hb)]
 simp only [hf, UBlk.lg, UBlk.core]
 omega
def UCode.put (u : UCode) (bi : Nat) (b : UBlk) (bl : List (Nat × Obj)) : UCode := { u with blocks := u.blocks.set bi b, bl := bl }
theorem Qbbh (us : List UCode) (ci bi : Nat) (hc : ci < us.length) (hb : bi < us[ci].blocks.length) (b : UBlk) (bl : List (Nat × Obj)) :
  ((us.set ci (us[ci].put bi b bl)).flatMap UCode.lg).Perm (bl ++ (b.pl ++ (b.core ++ Qamg us ci bi hc))) := by
 refine Qr fun f hf h0 hc1 hp => ?_
 rw [hp _ _ (Qep UCode.lg us ci _ hc)]
 simp only [hf, UCode.lg, Qamg, UCode.put]
 rw [hp _ _ (Qep UBlk.lg us[ci].blocks bi _ hb)]
 simp only [hf, UBlk.lg, UBlk.core]
 omega
theorem UBlk.core_snoc (b : UBlk) (p : UPhi) (pc : C) (pl : List (Nat × Obj)) : UBlk.core { b with phis := b.phis ++ [p], pc := pc, pl := pl } = b.core ++ p.al := by
 simp [UBlk.core, List.flatMap_append]
theorem UCode.put_row (u : UCode) (bi : Nat) (b : UBlk) (bl : List (Nat × Obj)) : (u.put bi b bl).row = u.row := rfl
theorem Qbbi (us : List UCode) (ci : Nat) (hc : ci < us.length) (u : UCode) (h : u.row = us[ci].row) : (us.set ci u).map UCode.row = us.map UCode.row := by
 rw [List.map_set, h]
 refine List.ext_getElem (by simp) fun i h1 h2 => ?_
 rw [List.getElem_set]
 split
 ·rename_i h; subst h; simp
 ·rfl
theorem UCode.put_ok {u : UCode} {bi : Nat} {b : UBlk} {y : Nat} (h : u.ok) (hb : b.ok) (hbl : u.bl = [(y, .vec 5 (u.blocks.map UBlk.row))]) : (u.put bi b [(y, .vec 5 ((u.blocks.set bi b).map UBlk.row))]).ok := by
 refine ⟨?_, fun b' hb' => ?_, h.p0, h.p1⟩
 ·rcases h.b with ⟨h1, h2, h3⟩ | ⟨y', h1, h2⟩
  ·rw [hbl] at h3; simp at h3
  ·rw [hbl] at h2
   have : y = y' := by simpa using h2
   subst this
   exact .inr ⟨y, by show u.bc = _; rw [h1]; simp [UCode.put], rfl⟩
 ·rcases List.mem_or_eq_of_mem_set hb' with hb' | rfl
  ·exact h.bs _ hb'
  ·exact hb
theorem UCode.put_sm {u : UCode} {bi N : Nat} {b : UBlk} {bl : List (Nat × Obj)} (h : u.sm N) (hb : b.sm (N + 1)) : (u.put bi b bl).sm (N + 1) := by
 refine ⟨by show 0 < (u.blocks.set bi b).length; simpa using h.b0, by show (u.blocks.set bi b).length ≤ _; simpa using h.b, fun b' hb' => ?_⟩
 rcases List.mem_or_eq_of_mem_set hb' with hb' | rfl
 ·exact (h.bs _ hb').mono (by omega)
 ·exact hb
theorem UCode.bvec {u : UCode} (h : u.ok) (h0 : 0 < u.blocks.length) : ∃ y, u.bc = .vsl y 5 0 u.blocks.length ∧ u.bl = [(y, .vec 5 (u.blocks.map UBlk.row))] := by
 rcases h.b with ⟨h1, h2, h3⟩ | ⟨y, h1, h2⟩
 ·have := List.map_eq_nil_iff.1 h2
  rw [this] at h0; simp at h0
 ·exact ⟨y, by rw [h1]; simp, h2⟩
end Go.AE.Y

namespace Go.AE.Y
def Qacz (us : List OCode) (ci bi : Nat) (hc : ci < us.length) : List (Nat × Obj) := (us[ci].blocks.eraseIdx bi).flatMap OBlk.lg ++ (us.eraseIdx ci).flatMap OCode.lg
theorem Qa7u (us : List OCode) (ci bi : Nat) (hc : ci < us.length) (hb : bi < us[ci].blocks.length) :
  (us.flatMap OCode.lg).Perm (us[ci].bl ++ (us[ci].blocks[bi].lg ++ Qacz us ci bi hc)) := by
 refine Qr fun f hf h0 hc1 hp => ?_
 rw [hp _ _ (Qf0 OCode.lg us ci hc)]
 simp only [hf, OCode.lg, Qacz]
 rw [hp _ _ (Qf0 OBlk.lg us[ci].blocks bi hb)]
 simp only [hf]
 omega
def OCode.put (u : OCode) (bi : Nat) (b : OBlk) (bl : List (Nat × Obj)) : OCode := { u with blocks := u.blocks.set bi b, bl := bl }
theorem Qbay (us : List OCode) (ci bi : Nat) (hc : ci < us.length) (hb : bi < us[ci].blocks.length) (b : OBlk) (bl : List (Nat × Obj)) :
  ((us.set ci (us[ci].put bi b bl)).flatMap OCode.lg).Perm (bl ++ (b.lg ++ Qacz us ci bi hc)) := by
 refine Qr fun f hf h0 hc1 hp => ?_
 rw [hp _ _ (Qep OCode.lg us ci _ hc)]
 simp only [hf, OCode.lg, Qacz, OCode.put]
 rw [hp _ _ (Qep OBlk.lg us[ci].blocks bi _ hb)]
 simp only [hf]
 omega
theorem Qbaz (us : List OCode) (ci : Nat) (hc : ci < us.length) (u : OCode) (h : u.row = us[ci].row) : (us.set ci u).map OCode.row = us.map OCode.row := by
 rw [List.map_set, h]
 refine List.ext_getElem (by simp) fun i h1 h2 => ?_
 rw [List.getElem_set]
 split
 ·rename_i h; subst h; simp
 ·rfl
theorem OCode.put_ok {u : OCode} {bi : Nat} {b : OBlk} {y : Nat} (h : u.ok) (hb : b.ok) (hbl : u.bl = [(y, .vec 5 (u.blocks.map OBlk.row))]) : (u.put bi b [(y, .vec 5 ((u.blocks.set bi b).map OBlk.row))]).ok := by
 refine ⟨?_, fun b' hb' => ?_⟩
 ·rcases h.b with ⟨h1, h2, h3⟩ | ⟨y', h1, h2⟩
  ·rw [hbl] at h3; simp at h3
  ·rw [hbl] at h2
   have : y = y' := by simpa using h2
   subst this
   exact .inr ⟨y, by show u.bc = _; rw [h1]; simp [OCode.put], rfl⟩
 ·rcases List.mem_or_eq_of_mem_set hb' with hb' | rfl
  ·exact h.bs _ hb'
  ·exact hb
theorem OCode.put_sm {u : OCode} {bi : Nat} {b : OBlk} {bl : List (Nat × Obj)} {N : Nat} (h : u.sm N) (hb : b.sm (N + 1)) : (u.put bi b bl).sm (N + 1) := by
 refine ⟨by show 0 < (u.blocks.set bi b).length; simpa using h.b0, by show (u.blocks.set bi b).length ≤ _; simpa using h.b, fun b' hb' => ?_, h.p0, h.p1⟩
 rcases List.mem_or_eq_of_mem_set hb' with hb' | rfl
 ·exact (h.bs _ hb').mono (by omega)
 ·exact hb
theorem OCode.bvec {u : OCode} (h : u.ok) (h0 : 0 < u.blocks.length) : ∃ y, u.bc = .vsl y 5 0 u.blocks.length ∧ u.bl = [(y, .vec 5 (u.blocks.map OBlk.row))] := by
 rcases h.b with ⟨h1, h2, h3⟩ | ⟨y, h1, h2⟩
 ·have := List.map_eq_nil_iff.1 h2
  rw [this] at h0; simp at h0
 ·exact ⟨y, by rw [h1]; simp, h2⟩
theorem OBlk.ivec {u : OBlk} (h : u.ok) (h0 : 0 < u.ins.length) : ∃ y, u.ic = .vsl y 4 0 u.ins.length ∧ u.il = [(y, .vec 4 (u.ins.map OIns.row))] := by
 rcases h.i with ⟨h1, h2, h3⟩ | ⟨y, h1, h2⟩
 ·have := List.map_eq_nil_iff.1 h2
  rw [this] at h0; simp at h0
 ·exact ⟨y, by rw [h1]; simp, h2⟩
variable {H0 H H2 : Heap} {E X cl : List (Nat × Obj)}
theorem Qayp {us : List OCode} {ci bi yb : Nat} {u : OCode} {b : OBlk} (kn : Kn H0 H E (X ++ us.flatMap OCode.lg ++ cl)) (hc : ci < us.length) (hu : us[ci] = u) (hb : bi < u.blocks.length) (hub : u.blocks[bi] = b)
  (hbl : u.bl = [(yb, .vec 5 (u.blocks.map OBlk.row))]) : Kn H0 H E ([(yb, .vec 5 (u.blocks.map OBlk.row))] ++ (b.lg ++ (Qacz us ci bi hc ++ (X ++ cl)))) := by
 subst hu; subst hub
 refine kn.perm (Qr fun f hf h0 hc1 hp => ?_)
 have h1 := hp _ _ (Qa7u us ci bi hc hb)
 rw [hbl] at h1
 simp only [hf] at h1 ⊢
 omega
theorem Qa11 {us : List OCode} {ci bi yb : Nat} {u : OCode} {b' : OBlk} {cc : C} (hc : ci < us.length) (hu : us[ci] = u) (hb : bi < u.blocks.length)
  (hbl : u.bl = [(yb, .vec 5 (u.blocks.map OBlk.row))]) {N : Nat} (hok : ∀ u ∈ us, u.ok ∧ u.sm N) (hok' : b'.ok) (hsm' : b'.sm (N + 1)) (hg : Gr cl 3 (us.map OCode.row) cc)
  (kn : Kn H0 H E ([(yb, .vec 5 ((u.blocks.set bi b').map OBlk.row))] ++ (b'.lg ++ (Qacz us ci bi hc ++ (X ++ cl))))) :
  ∃ us' : List OCode, us'.length = us.length ∧ Gr cl 3 (us'.map OCode.row) cc ∧ (∀ u ∈ us', u.ok ∧ u.sm (N + 1)) ∧ Kn H0 H E (X ++ us'.flatMap OCode.lg ++ cl) := by
 obtain ⟨h1, h2⟩ := hok _ (List.getElem_mem hc)
 rw [hu] at h1 h2
 refine ⟨us.set ci (u.put bi b' [(yb, .vec 5 ((u.blocks.set bi b').map OBlk.row))]), by simp, ?_, fun v hv => ?_, kn.perm (Qr fun f hf h0 hc1 hp => ?_)⟩
 ·rw [Qbaz us ci hc _ (by rw [hu]; rfl)]; exact hg
 ·rcases List.mem_or_eq_of_mem_set hv with hv | rfl
  ·exact ⟨(hok v hv).1, (hok v hv).2.mono (by omega)⟩
  ·exact ⟨OCode.put_ok h1 hok' hbl, OCode.put_sm h2 hsm'⟩
 ·subst hu
  have h1 := hp _ _ (Qbay us ci bi hc hb b' [(yb, .vec 5 ((us[ci].blocks.set bi b').map OBlk.row))])
  simp only [hf] at h1 ⊢
  omega
theorem Q4w {l : List OBlk} {bi : Nat} {b : OBlk} (hb : bi < l.length) (h : b.row = (l[bi]).row) : (l.set bi b).map OBlk.row = l.map OBlk.row := by
 rw [List.map_set, h]
 refine List.ext_getElem (by simp) fun i h1 h2 => ?_
 rw [List.getElem_set]
 split
 ·rename_i h; subst h; simp
 ·rfl
variable {b b' : OBlk} {R : List (Nat × Obj)} {p : Nat × Obj}
theorem Qai6 {yi : Nat} (kn : Kn H0 H E ([p] ++ (b.lg ++ R))) (hil : b.il = [(yi, .vec 4 (b.ins.map OIns.row))]) :
  Kn H0 H E ([(yi, .vec 4 (b.ins.map OIns.row))] ++ ([p] ++ (b.nx.lg ++ (b.phis.flatMap OPhi.lg ++ (b.pl ++ (b.ins.flatMap OIns.lg ++ R)))))) := by
 refine kn.perm (Qr fun f hf h0 hc1 hp => ?_)
 simp only [OBlk.lg, hil, hf]
 omega
theorem Qa2g {yi : Nat} {is : List OIns} (kn : Kn H0 H E ([(yi, .vec 4 (is.map OIns.row))] ++ ([p] ++ (b.nx.lg ++ (b.phis.flatMap OPhi.lg ++ (b.pl ++ (b.ins.flatMap OIns.lg ++ R)))))))
  (hl : (is.flatMap OIns.lg).Perm (b.ins.flatMap OIns.lg)) : Kn H0 H E ([p] ++ (OBlk.lg { b with ins := is, il := [(yi, .vec 4 (is.map OIns.row))] } ++ R)) := by
 refine kn.perm (Qr fun f hf h0 hc1 hp => ?_)
 have := hp _ _ hl
 simp only [OBlk.lg, hf]
 omega
theorem Q0l {l : List OIns} {i : Nat} {x' : OIns} (hi : i < l.length) (h : x'.lg = (l[i]).lg) : ((l.set i x').flatMap OIns.lg).Perm (l.flatMap OIns.lg) := by
 refine (Qep OIns.lg l i x' hi).trans ?_
 rw [h]
 exact (Qf0 OIns.lg l i hi).symm
theorem OBlk.ins_ok {yi : Nat} {i : Nat} {x' : OIns} (h : b.ok) (hic : b.ic = .vsl yi 4 0 b.ins.length) : OBlk.ok { b with ins := b.ins.set i x', il := [(yi, .vec 4 ((b.ins.set i x').map OIns.row))] } :=
 ⟨h.p, .inr ⟨yi, by show b.ic = _; rw [hic]; simp, rfl⟩, h.a⟩
theorem OBlk.ins_sm {yi : Nat} {i : Nat} {x' : OIns} {N : Nat} (h : b.sm N) (hx : x'.a.ns.length ≤ N + 1) : OBlk.sm { b with ins := b.ins.set i x', il := [(yi, .vec 4 ((b.ins.set i x').map OIns.row))] } (N + 1) := by
 refine ⟨h.n, by simpa using h.i, by have := h.p; show b.phis.length ≤ _; omega, fun x hx2 => ?_⟩
 rcases List.mem_or_eq_of_mem_set hx2 with hx2 | rfl
 ·have := h.ia x hx2; omega
 ·exact hx
end Go.AE.Y

namespace Go.AE.Y
abbrev Q0k : Nat := 8
abbrev Qoe : Nat := 16
abbrev Quq : Nat := 18
abbrev Qe4 : Nat := 25
abbrev Qhb : Nat := 30
abbrev Qfh : Nat := 34
abbrev Qef : Nat := 41
abbrev Qkf : Nat := 42
abbrev Qkr : Nat := 43
abbrev Qh1 : Nat := 44
abbrev Qbg : Nat := 45
abbrev Qeq : Nat := 46
abbrev Qh6 : Nat := 65
abbrev Qaiw : Nat := 68
abbrev Qyb : Nat := 73
abbrev Qyj : Nat := 76
abbrev Qn8 : Nat := 77
abbrev Qex : Nat := 78
abbrev Qbe : Nat := 79
abbrev Qyg : Nat := 81
abbrev Qhc : Nat := 83
abbrev Qal : Nat := 84
abbrev Qcd : Nat := 85
abbrev Qf5 : Nat := 86
abbrev Qiu : Nat := 88
abbrev Qyc : Nat := 96
abbrev Qci : Nat := 97
abbrev Qce : Nat := 98
abbrev Qyf : Nat := 99
abbrev Qki : Nat := 100
abbrev Qb6 : Nat := 101
abbrev Qn9 : Nat := 102
abbrev Qbu : Nat := 103
abbrev Q8 : Nat := 117
abbrev Qk : Nat := 120
abbrev Qkq : Nat := 122
abbrev Qbm : Nat := 123
abbrev Qvy : Nat := 125
abbrev Qix : Nat := 128
abbrev Qee : Nat := 134
abbrev Qiy : Nat := 135
abbrev Qkp : Nat := 136
abbrev Q5j : Nat := 137
abbrev Qey : Nat := 138
abbrev Qed : Nat := 139
abbrev Qbk : Nat := 140
abbrev Qye : Nat := 141
abbrev Qog : Nat := 142
abbrev Qkh : Nat := 143
abbrev Q5p : Nat := 146
abbrev Qyd : Nat := 147
abbrev Qh2 : Nat := 148
abbrev Qyl : Nat := 149
abbrev Qup : Nat := 150
abbrev Qb9 : Nat := 151
abbrev Qf1 : Nat := 152
abbrev Qcu : Nat := 153
abbrev Qay : Nat := 154
abbrev Qaf : Nat := 155
abbrev Qf6 : Nat := 156
abbrev Qf2 : Nat := 157
abbrev Qca : Nat := 158
abbrev Qf3 : Nat := 159
abbrev Quo : Nat := 160
abbrev Qf4 : Nat := 161
abbrev Qf8 : Nat := 165
abbrev Qba : Nat := 167
abbrev Q5h : Nat := 168
abbrev Qfu : Nat := 169
abbrev Qkm : Nat := 171
abbrev Qv1 : Nat := 172
abbrev Q5v : Nat := 173
abbrev Q5n : Nat := 174
abbrev Qai0 : Nat := 175
abbrev Qv0 : Nat := 176
abbrev Q5u : Nat := 177
abbrev Qbv : Nat := 178
abbrev Qb5 : Nat := 179
abbrev Qc5 : Nat := 180
abbrev Qc4 : Nat := 181
abbrev Qcy : Nat := 182
abbrev Qh3 : Nat := 183
abbrev Qoa : Nat := 184
abbrev Qkg : Nat := 185
abbrev Qbl : Nat := 187
abbrev Qof : Nat := 188
abbrev Qg7 : Nat := 189
abbrev Qiz : Nat := 190
abbrev Qh7 : Nat := 191
abbrev Qdo : Nat := 192
abbrev Q5i : Nat := 193
abbrev Qf9 : Nat := 194
abbrev Qm3 : Nat := 195
abbrev Q5r : Nat := 198
abbrev Q5q : Nat := 199
abbrev Qare : Nat := 200
abbrev Qkj : Nat := 201
abbrev Qdp : Nat := 202
abbrev Qob : Nat := 203
abbrev Qct : Nat := 204
abbrev Qcx : Nat := 205
abbrev Qcs : Nat := 206
abbrev Qcw : Nat := 207
abbrev Qh5 : Nat := 215
abbrev Q5s : Nat := 216
abbrev Q5t : Nat := 217
abbrev Qoc : Nat := 218
abbrev Qak : Nat := 219
abbrev Qb8 : Nat := 220
abbrev Qar : Nat := 221
abbrev Qa0 : Nat := 222
abbrev Qax : Nat := 223
abbrev Qb7 : Nat := 224
abbrev Qa6 : Nat := 225
abbrev Qard : Nat := 226
abbrev Qaiz : Nat := 227
abbrev Qyk : Nat := 230
abbrev Qko : Nat := 231
abbrev Qkl : Nat := 232
abbrev Qez : Nat := 233
abbrev Qda : Nat := 234
abbrev Qiw : Nat := 235
abbrev Qiv : Nat := 236
abbrev Qkn : Nat := 238
abbrev Qb0 : Nat := 239
abbrev Qhe : Nat := 240
abbrev Qf7 : Nat := 241
abbrev Qhd : Nat := 242
abbrev Qfi : Nat := 243
abbrev Qkk : Nat := 244
abbrev Q5l : Nat := 245
abbrev Qaix : Nat := 246
abbrev Qaiy : Nat := 247
abbrev Q5o : Nat := 248
abbrev Qod : Nat := 262
abbrev Qym : Nat := 263
abbrev Qh4 : Nat := 264
abbrev Qyh : Nat := 265
abbrev Qh8 : Nat := 266
abbrev Q5m : Nat := 267
abbrev Qga : Nat := 268
abbrev Qyi : Nat := 287
abbrev Qvz : Nat := 288
abbrev Qr6 : Nat := 289
abbrev Q5k : Nat := 299
end Go.AE.Y

