/- Part 6 of the proof: the engine, codes, walks and plain laws, each named where it stands. -/
import Derived.Test.YtajdffbgjodbfaaGreatZE
import Derived.Below
import Derived.OpenShut
import Derived.ProofKit
open Nat (reduceEqDiff reduceAdd reduceLeDiff reduceLT)
set_option linter.unusedVariables false
set_option linter.unusedSimpArgs false
set_option maxRecDepth 4000
namespace Go.AE.Y
open Go.Proofs.Tryz
variable {H H0 : Heap} {K : V → Heap → Prop} {E B Lg : List (Nat × Obj)}
set_option maxHeartbeats 2000000 in
theorem l17Heads_c {p rg : Int} {fl : Bool} {rows : List (List C)} {nx : Nat → List Int} (hg : GF rows nx) (hf : fitsB rows.length nx = true)
  (hK : ∀ fl' H', Upd H H' [] → K (.c (.sl fl' 1 (natsOf (headL rows.length (nxN nx))))) H') :
  ACall prog fn_l17Heads [.ag [.int .i64 p, .int .i64 rg, .sl fl 5 rows], .c (.sl false 1 (ovOf rows.length (nxN nx) rows.length))] H K := by
 have hn := hg.n
 refine acall_un ?_
 refine call_sound hmix m_l17Heads ?_
 refine s_reg ?_
 simp only [go_sem]
 refine s_reg ?_
 simp only [go_sem]
 refine c_as ?_
 refine s_reg ?_
 simp only [go_sem]
 refine c_seq (c_block (c_loop (fun m e1 H1 => ∃ (h : Nat) (fo : Bool), m = rows.length - h ∧ h ≤ rows.length ∧ Kn H H1 [] [] ∧
  e1 = [(1, .c (.sl false 1 (ovOf rows.length (nxN nx) rows.length))), (2, .c (.pp [.int .i64 p, .int .i64 rg, .sl fl 5 rows])), (5, .c (.sl fo 1 (natsOf ((List.range h).filter (headB rows.length (nxN nx)))))), (6, .c (.int .i64 h))]) rows.length ?_ ?_))
 ·exact ⟨0, true, by omega, by omega, Kn.start0 H, rfl⟩
 ·rintro m e1 H1 ⟨h, fo, hm, hi, kn, rfl⟩
  refine c_as ?_
  refine s_reg ?_
  simp only [go_sem]
  intro _
  refine c_seq (c_cond rfl ?_ ?_)
  ·intro hc
   have hlt : h < rows.length := by simpa using hc
   have hpl := predL_len rows.length (nxN nx) h
   refine c_skip ?_
   simp only [go_sem]
   refine c_cut (fun e2 H2 => ∃ (fo : Bool), Kn H H2 [] [] ∧ lk 1 e2 = .c (.sl false 1 (ovOf rows.length (nxN nx) rows.length)) ∧ lk 2 e2 = .c (.pp [.int .i64 p, .int .i64 rg, .sl fl 5 rows]) ∧
    lk 5 e2 = .c (.sl fo 1 (natsOf ((List.range (h + 1)).filter (headB rows.length (nxN nx))))) ∧ lk 6 e2 = .c (.int .i64 h)) ?_ ?_
   ·intro Q hnr _ _
    refine c_block ?_
    refine s_reg ?_
    simp only [go_sem]
    refine l7Preds_c (b := (h : Int)) (hg.grd H1 fl).s rfl hg.x fun H2 hu => ?_
    have kn := kn.call0 hu
    rw [predsOf_nat hf]
    simp only [go_sem, s_l17Heads_i0]
    refine s_reg ?_
    simp only [go_sem]
    refine c_block (c_loop (fun m e1 H1 => ∃ (i : Nat) (fo : Bool), m = (predL rows.length (nxN nx) h).length - i ∧ i ≤ (predL rows.length (nxN nx) h).length ∧ Kn H H1 [] [] ∧
     e1 = [(1, .c (.sl false 1 (ovOf rows.length (nxN nx) rows.length))), (2, .c (.pp [.int .i64 p, .int .i64 rg, .sl fl 5 rows])),
      (5, .c (.sl fo 1 (natsOf ((List.range h).filter (headB rows.length (nxN nx)) ++ if ((predL rows.length (nxN nx) h).take i).any (domB (nxN nx) h) then [h] else [])))), (6, .c (.int .i64 h)),
      (7, .c (.sl false 1 (natsOf (predL rows.length (nxN nx) h)))), (8, .c (.int .i64 i))]) (predL rows.length (nxN nx) h).length ?_ ?_)
    ·exact ⟨0, fo, by omega, by omega, kn, by simp; rfl⟩
    ·rintro m2 e1 H3 ⟨i, fo2, hm2, hi2, kn, rfl⟩
     refine c_as ?_
     refine s_reg ?_
     simp only [go_sem, natsOf_len]
     intro _
     refine c_seq (c_cond rfl ?_ ?_)
     ·intro hc2
      have hlt2 : i < (predL rows.length (nxN nx) h).length := by simpa using hc2
      have hgd : (predL rows.length (nxN nx) h).getD i 0 = (predL rows.length (nxN nx) h)[i] := by simp [List.getD_eq_getElem?_getD, hlt2]
      have hql := (predL_mem.1 (List.getElem_mem hlt2)).1
      rw [← hgd] at hql
      have hqd : (predL rows.length (nxN nx) h).getD i 0 < (domRow rows.length (nxN nx) h).length := by rw [domRow_len]; exact hql
      have htk : (predL rows.length (nxN nx) h).take (i + 1) = (predL rows.length (nxN nx) h).take i ++ [(predL rows.length (nxN nx) h).getD i 0] := by
       rw [List.take_succ_eq_append_getElem hlt2, hgd]
      have hany : ((predL rows.length (nxN nx) h).take (i + 1)).any (domB (nxN nx) h) = (((predL rows.length (nxN nx) h).take i).any (domB (nxN nx) h) || domB (nxN nx) h ((predL rows.length (nxN nx) h).getD i 0)) := by
       rw [htk, List.any_append]; simp
      refine c_skip ?_
      simp only [go_sem]
      refine c_seq (c_block ?_)
      refine s_dreg ?_
      simp only [go_sem, hlt, hlt2, hql, ovOf_len, ovOf_getD hlt, natsOf_len, natsOf_getD _ _ hlt2, boolsOf_len, domRow_len, boolsOf_getD _ _ hqd, domRow_getD hql]
      refine c_cond rfl ?_ ?_
      ·intro hd
       refine c_reg ?_
       simp only [go_sem]
       have hfl := List.length_filter_le (headB rows.length (nxN nx)) (List.range h)
       rw [List.length_range] at hfl
       have hfasc : ((List.range h).filter (headB rows.length (nxN nx))).Pairwise (· < ·) := List.Pairwise.filter _ List.pairwise_lt_range
       have hflt : ∀ x ∈ (List.range h).filter (headB rows.length (nxN nx)), x < h := fun x hx => List.mem_range.1 (List.mem_filter.1 hx).1
       have hasc1 : ((List.range h).filter (headB rows.length (nxN nx)) ++ [h]).Pairwise (· < ·) := by
        rw [List.pairwise_append]
        exact ⟨hfasc, by simp, fun a ha b hb => by simp at hb; subst hb; exact hflt a ha⟩
       have hasc0 : ∀ c : Bool, ((List.range h).filter (headB rows.length (nxN nx)) ++ if c then [h] else []).Pairwise (· < ·) := by
        intro c; cases c
        ·simpa using hfasc
        ·exact hasc1
       have hascI : ∀ l : List Nat, l.Pairwise (· < ·) → (l.map Int.ofNat).Pairwise (· < ·) := fun l hl => by
        rw [List.pairwise_map]; exact hl.imp (fun h => by simpa using h)
       refine l7Insert_c (ns := ((List.range h).filter (headB rows.length (nxN nx)) ++ if ((predL rows.length (nxN nx) h).take i).any (domB (nxN nx) h) then [h] else []).map Int.ofNat) (hascI _ (hasc0 _)) (by rw [List.length_map, List.length_append]; split <;> simp <;> omega) fun fl' ns' H4 hu h1 h2 h3 => ?_
       have kn := kn.call0 hu
       have he : ns' = ((List.range h).filter (headB rows.length (nxN nx)) ++ [h]).map Int.ofNat := by
        refine asc_ints h1 hasc1 fun x => ?_
        rw [h2]
        simp only [List.map_append, List.mem_append, List.mem_map, List.mem_singleton]
        constructor
        ·rintro (rfl | ⟨y, hy, rfl⟩ | ⟨y, hy, rfl⟩)
         ·exact ⟨h, .inr rfl, rfl⟩
         ·exact ⟨y, .inl hy, rfl⟩
         ·split at hy
          ·simp at hy; subst hy; exact ⟨y, .inr rfl, rfl⟩
          ·simp at hy
        ·rintro ⟨y, hy | rfl, rfl⟩
         ·exact .inr (.inl ⟨y, hy, rfl⟩)
         ·exact .inl rfl
       simp only [go_sem, s_l17Heads_i1]
       refine c_reg ?_
       simp only [go_sem, X.next]
       refine ⟨inR64 (by omega) (by omega), (predL rows.length (nxN nx) h).length - (i + 1), by omega, i + 1, fl', rfl, by omega, kn, ?_⟩
       rw [hany, hd, Bool.or_true, if_pos rfl, he]; rfl
      ·intro hd
       refine c_skip ?_
       simp only [go_sem]
       refine c_reg ?_
       simp only [go_sem, X.next]
       refine ⟨inR64 (by omega) (by omega), (predL rows.length (nxN nx) h).length - (i + 1), by omega, i + 1, fo2, rfl, by omega, kn, ?_⟩
       rw [hany, hd, Bool.or_false]; rfl
     ·intro hc2
      have hge : (predL rows.length (nxN nx) h).length ≤ i := by simpa using hc2
      refine c_exit ?_
      simp only [go_sem, X.next]
      refine hnr _ _ ⟨fo2, kn, rfl, rfl, ?_, rfl⟩
      rw [List.take_of_length_le hge, headF_succ]
      rfl
   ·rintro e2 H2 ⟨fo2, kn, l1, l2, l5, l6⟩
    refine c_reg ?_
    simp only [go_sem, X.next, l1, l2, l5, l6]
    exact ⟨inR64 (by omega) (by omega), rows.length - (h + 1), by omega, h + 1, fo2, rfl, by omega, kn, by rw [List.range_succ]; rfl⟩
  ·intro hc
   have hge : h = rows.length := by have : ¬ h < rows.length := (by simpa using hc); omega
   subst hge
   refine c_exit ?_
   simp only [go_sem, X.next]
   refine s_reg ?_
   simp only [go_sem]
   refine c_ret ?_
   simp only [go_sem, endQ, retT, r_l17Heads, List.mem_singleton, forall_eq, RS.op]
   exact ⟨_, .c _ _ (frzc_sl (noOw_mem (natsOf_noOw _))), hK _ _ kn.fin⟩
theorem sp_LoopHeads_c {p rg : Int} {fl : Bool} {rows : List (List C)} {nx : Nat → List Int} (hg : GF rows nx)
  (hK : ∀ fl' H', Upd H H' [] → K (.c (.sl fl' 1 (natsOf (headsL rows.length nx)))) H') :
  ACall prog fn_sp_LoopHeads [.ag [.int .i64 p, .int .i64 rg, .sl fl 5 rows]] H K := by
 refine acall_un ?_
 refine call_sound hmix m_sp_LoopHeads ?_
 refine s_reg ?_
 simp only [go_sem]
 refine c_as ?_
 refine s_reg ?_
 simp only [go_sem]
 refine l10Fits_c (hg.grd _ _) ?_
 simp only [go_sem, s_sp_LoopHeads_i0]
 refine c_seq (c_cond rfl (fun hc => ?_) (fun hc => ?_))
 ·have hf := not_t hc
  refine s_reg ?_
  simp only [go_sem]
  refine c_ret ?_
  simp only [go_sem, endQ, retT, r_sp_LoopHeads, List.mem_singleton, forall_eq, RS.op]
  have := hK false _ (Kn.start0 H).fin
  rw [headsL_not hf] at this
  exact ⟨_, .c _ _ FrzR.nil.sl, this⟩
 ·have hf := not_f hc
  refine c_skip ?_
  simp only [go_sem]
  refine s_dreg ?_
  simp only [go_sem]
  refine l11Doms_c hg hf fun H1 hu => ?_
  have kn := (Kn.start0 H).call0 hu
  simp only [go_sem, s_sp_LoopHeads_i3]
  refine l17Heads_c hg hf fun fl' H2 hu => ?_
  have kn := kn.call0 hu
  simp only [go_sem, s_sp_LoopHeads_i2]
  refine c_ret ?_
  simp only [go_sem, endQ, retT, r_sp_LoopHeads, List.mem_singleton, forall_eq, RS.op]
  have := hK false _ kn.fin
  rw [headsL_fits hf] at this
  exact ⟨_, .c _ _ (frzc_sl (noOw_mem (natsOf_noOw _))), this⟩
def Gq (Lg : List (Nat × Obj)) (W : List Nat) (c : C) : Prop :=
 (c = .sl true 1 [] ∧ W = [] ∧ Lg = []) ∨ ∃ z st R, c = .vsl z 1 st W.length ∧ Lg = [(z, .vec 1 R)] ∧ (R.drop st).take W.length = natsOf W ∧ st + W.length ≤ R.length
theorem Gq.isOw {W : List Nat} {c : C} (h : Gq Lg W c) : c.isOw = false := by rcases h with ⟨rfl, _⟩ | ⟨z, st, R, rfl, _⟩ <;> rfl
theorem Gq.elemSz {W : List Nat} {c : C} (h : Gq Lg W c) : c.elemSz = 1 := by rcases h with ⟨rfl, _⟩ | ⟨z, st, R, rfl, _⟩ <;> rfl
theorem Gq.lenC {W : List Nat} {c : C} (h : Gq Lg W c) : lenC c = W.length := by rcases h with ⟨rfl, rfl, _⟩ | ⟨z, st, R, rfl, _⟩ <;> rfl
theorem Gq.get {W : List Nat} {c : C} (h : Gq Lg W c) (kn : Kn H0 H E (B ++ Lg)) : okSl H c ∧ rowsOf H c = natsOf W := by
 rcases h with ⟨rfl, rfl, _⟩ | ⟨z, st, R, rfl, rfl, h1, h2⟩
 ·exact ⟨trivial, rfl⟩
 ·have hz : H z = .vec 1 R := (kn.get (z, .vec 1 R) (by simp)).1
  exact ⟨by simp [okSl, hz, h2], by simp [rowsOf, hz, h1]⟩
theorem Gr.gq {W : List Nat} {c : C} (h : Gr Lg 1 (natsOf W) c) : Gq Lg W c := by
 rcases h with ⟨h1, h2, h3⟩ | ⟨y, h1, h2⟩
 ·refine .inl ⟨h1, ?_, h3⟩
  have := congrArg List.length h2
  rw [natsOf_len] at this
  exact List.length_eq_zero_iff.1 this
 ·exact .inr ⟨y, 0, natsOf W, by rw [h1, natsOf_len], h2, by rw [List.drop_zero, List.take_of_length_le (by rw [natsOf_len]; exact Nat.le_refl _)], by rw [natsOf_len]; omega⟩
theorem Kn.growQ {K : V → Heap → Prop} {W new : List Nat} {b c : C} (kn : Kn H0 H E (B ++ Lg)) (hc : Gq Lg W c) (hb : Slc H 1 (natsOf new) b) (h2 : W.length + new.length ≤ LIM)
  (h : ∀ t Lg' H', Gq Lg' (W ++ new) t → t.isOw = false → Kn H0 H' E (B ++ Lg') → K (.c t) H') : appQ H 1 c b K := by
 rcases hc with ⟨rfl, rfl, rfl⟩ | ⟨z, st, R, rfl, rfl, h3, h4⟩
 ·refine Kn.growR (new := natsOf new) kn (.nil 1) hb (natsOf_noOw _) (by simp only [natsOf_len, List.length_nil] at *; omega) fun t Lg' H' hg ht k => h t Lg' H' (Gr.gq ?_) ht k
  simpa using hg
 ·have hz : H z = .vec 1 R := (kn.get (z, .vec 1 R) (by simp)).1
  refine ⟨hb.ok, hb.sz, ?_⟩
  simp only [hz, hb.rows, hb.len, h3, natsOf_len]
  refine ⟨trivial, trivial, h4, natsOf_noOw _, h2, fun l' hl' H' hH' => ?_⟩
  have hg : Gr [(l', .vec 1 (natsOf (W ++ new)))] 1 (natsOf (W ++ new)) (.vsl l' 1 0 (W.length + new.length)) := .mk _ _ _ (by simp [natsOf_len])
  refine h _ _ H' (Gr.gq hg) rfl ?_
  have := kn.ap B.length (y := z) (o := .vec 1 R) (by simp) hl' hH'
  rw [natsOf_app]
  simpa using this
set_option maxHeartbeats 4000000 in
theorem l17Body_c {p rg : Int} {fl : Bool} {rows : List (List C)} {nx : Nat → List Int} {h : Nat} (hg : GF rows nx) (hf : fitsB rows.length nx = true) (hh : h < rows.length)
  (hK : ∀ fl' H', Upd H H' [] → K (.c (.sl fl' 1 (natsOf (bodyL rows.length (nxN nx) h)))) H') :
  ACall prog fn_l17Body [.ag [.int .i64 p, .int .i64 rg, .sl fl 5 rows], .c (.sl false 1 (ovOf rows.length (nxN nx) rows.length)), .c (.int .i64 h)] H K := by
 have hn := hg.n
 have hpl := predL_len rows.length (nxN nx) h
 refine acall_un ?_
 refine call_sound hmix m_l17Body ?_
 refine s_reg ?_
 simp only [go_sem]
 refine s_reg ?_
 simp only [go_sem]
 refine s_reg ?_
 simp only [go_sem]
 refine s_reg ?_
 simp only [go_sem]
 refine l7Preds_c (b := (h : Int)) (hg.grd H fl).s rfl hg.x fun H2 hu => ?_
 have kn := (Kn.start0 H).call0 hu
 rw [predsOf_nat hf]
 simp only [go_sem, s_l17Body_i0]
 refine c_as ?_
 refine s_reg ?_
 simp only [go_sem]
 refine c_seq (c_block (c_loop (fun m e1 H1 => ∃ (i : Nat) (wc : C) (Lg : List (Nat × Obj)), m = (predL rows.length (nxN nx) h).length - i ∧ i ≤ (predL rows.length (nxN nx) h).length ∧ Gq Lg (((predL rows.length (nxN nx) h).take i).filter (domB (nxN nx) h)) wc ∧ Kn H H1 [] ([] ++ Lg) ∧
  e1 = [(1, .c (.sl false 1 (ovOf rows.length (nxN nx) rows.length))), (2, .c (.int .i64 h)), (3, .c (.pp [.int .i64 p, .int .i64 rg, .sl fl 5 rows])), (7, .c (.sl true 1 [[.int .i64 h]])), (8, .c wc),
   (9, .c (.sl false 1 (natsOf (predL rows.length (nxN nx) h)))), (10, .c (.int .i64 i))]) (predL rows.length (nxN nx) h).length ?_ ?_))
 ·exact ⟨0, _, [], by omega, by omega, .inl ⟨rfl, rfl, rfl⟩, kn, rfl⟩
 ·rintro m e1 H3 ⟨i, wc, Lg, hm, hi, hq, kn, rfl⟩
  have hqw := hq.isOw
  refine c_as ?_
  refine s_reg ?_
  simp only [go_sem, hqw, natsOf_len]
  intro _
  refine c_seq (c_cond rfl ?_ ?_)
  ·intro hc
   have hlt2 : i < (predL rows.length (nxN nx) h).length := by simpa using hc
   have hgd : (predL rows.length (nxN nx) h).getD i 0 = (predL rows.length (nxN nx) h)[i] := by simp [List.getD_eq_getElem?_getD, hlt2]
   have hql := (predL_mem.1 (List.getElem_mem hlt2)).1
   rw [← hgd] at hql
   have hqd : (predL rows.length (nxN nx) h).getD i 0 < (domRow rows.length (nxN nx) h).length := by rw [domRow_len]; exact hql
   have htk : (predL rows.length (nxN nx) h).take (i + 1) = (predL rows.length (nxN nx) h).take i ++ [(predL rows.length (nxN nx) h).getD i 0] := by
    rw [List.take_succ_eq_append_getElem hlt2, hgd]
   have hfl := List.length_filter_le (domB (nxN nx) h) ((predL rows.length (nxN nx) h).take i)
   rw [List.length_take] at hfl
   refine c_skip ?_
   simp only [go_sem]
   refine c_seq (c_block ?_)
   refine s_dreg ?_
   simp only [go_sem, hqw, hh, hlt2, hql, ovOf_len, ovOf_getD hh, natsOf_len, natsOf_getD _ _ hlt2, boolsOf_len, domRow_len, boolsOf_getD _ _ hqd, domRow_getD hql]
   refine c_cond rfl ?_ ?_
   ·intro hd
    refine c_reg ?_
    simp only [go_sem, hqw, hlt2, natsOf_len, natsOf_getD _ _ hlt2]
    refine Kn.growQ kn hq (new := [(predL rows.length (nxN nx) h).getD i 0]) (.mk' _ _ _ _) (by simp only [LIM, List.length_cons, List.length_nil]; omega) fun t Lg' H4 hq ht kn => ?_
    simp only [go_sem, s_l17Body_i1, ht]
    refine c_reg ?_
    simp only [go_sem, ht, X.next]
    refine ⟨inR64 (by omega) (by omega), (predL rows.length (nxN nx) h).length - (i + 1), by omega, i + 1, t, Lg', rfl, by omega, ?_, kn, rfl⟩
    rw [htk, List.filter_append, List.filter_cons, hd]; exact hq
   ·intro hd
    refine c_skip ?_
    simp only [go_sem]
    refine c_reg ?_
    simp only [go_sem, hqw, X.next]
    refine ⟨inR64 (by omega) (by omega), (predL rows.length (nxN nx) h).length - (i + 1), by omega, i + 1, wc, Lg, rfl, by omega, ?_, kn, rfl⟩
    rw [htk, List.filter_append, List.filter_cons, hd]; simpa using hq
  ·intro hc
   have hge : (predL rows.length (nxN nx) h).length ≤ i := by simpa using hc
   rw [List.take_of_length_le hge] at hq
   have hfl := List.length_filter_le (domB (nxN nx) h) (predL rows.length (nxN nx) h)
   refine c_exit ?_
   simp only [go_sem, X.next]
   refine c_seq (c_block (c_loop (fun m e1 H1 => ∃ (O W : List Nat) (fo : Bool) (wc : C) (Lg : List (Nat × Obj)), m = (rows.length - O.length) * (rows.length + 1) + W.length ∧ W.length ≤ rows.length * O.length ∧ BWk rows.length (nxN nx) h O W ∧ Gq Lg W wc ∧ Kn H H1 [] ([] ++ Lg) ∧
    lk 1 e1 = .c (.sl false 1 (ovOf rows.length (nxN nx) rows.length)) ∧ lk 3 e1 = .c (.pp [.int .i64 p, .int .i64 rg, .sl fl 5 rows]) ∧ lk 7 e1 = .c (.sl fo 1 (natsOf O)) ∧ lk 8 e1 = .c wc) ((rows.length - 1) * (rows.length + 1) + ((predL rows.length (nxN nx) h).filter (domB (nxN nx) h)).length) ?_ ?_))
   ·exact ⟨[h], _, true, wc, Lg, rfl, by simp; omega, .init, hq, kn, rfl, rfl, rfl, rfl⟩
   ·rintro m2 e1 H4 ⟨O, W, fo, wc, Lg, hm2, hWl, hbw, hq, kn, l1, l3, l7, l8⟩
    have hqw := hq.isOw
    obtain ⟨hqok, hqr⟩ := hq.get kn
    have hqok := eq_true hqok
    have hql := hq.lenC
    have hqs := hq.elemSz
    have hOl := hbw.len hh
    have hWO : rows.length * O.length ≤ 10000 * 10000 := Nat.mul_le_mul (by omega) (by omega)
    refine c_as ?_
    refine s_reg ?_
    simp only [go_sem, l1, l3, l7, l8, hqw, hqok, hql]
    intro _
    refine c_seq (c_cond rfl ?_ ?_)
    ·intro hc2
     obtain ⟨b, W, rfl⟩ : ∃ b W', W = b :: W' := by
      cases W with
      | nil => simp at hc2
      | cons b W => exact ⟨b, W, rfl⟩
     have hb := hbw.r b List.mem_cons_self
     have hr0 : (natsOf (b :: W)).getD 0 [] = [.int .i64 (b : Int)] := rfl
     have hbd : b < (domRow rows.length (nxN nx) b).length := by rw [domRow_len]; exact hb
     obtain ⟨wc2, hsli, hq2⟩ : ∃ wc2, sliC (some 1) none wc = wc2 ∧ Gq Lg W wc2 := by
      refine ⟨_, rfl, ?_⟩
      rcases hq with ⟨_, h, _⟩ | ⟨z, st, R, rfl, rfl, h3, h4⟩
      ·simp at h
      ·refine .inr ⟨z, st + 1, R, ?_, rfl, ?_, by simp at h4; omega⟩
       ·simp [sliC]
       ·have := congrArg (List.drop 1) h3
        rw [← List.drop_drop, List.drop_take] at *
        simp only [List.length_cons, Nat.add_sub_cancel] at this
        rw [this]; rfl
     refine c_skip ?_
     simp only [go_sem]
     refine c_block ?_
     refine s_reg ?_
     simp only [go_sem, l1, l3, l7, l8, hqw, hqok, hqr, hqs, hql, hr0, Nat.succ_pos, List.length_cons]
     refine ⟨by omega, ?_⟩
     refine s_reg ?_
     simp only [go_sem, hqw, hqok, hqs, hql, hsli, List.length_cons]
     refine ⟨⟨by omega, by omega, by omega⟩, ?_⟩
     have hqw2 := hq2.isOw
     refine c_as ?_
     refine s_reg ?_
     simp only [go_sem, hqw2]
     refine l10At_c (ns := O.map Int.ofNat) (.mk' _ _ _ _) rfl fun r hr => ?_
     have hrn := hr.nonneg
     have hcon : (O.map Int.ofNat).contains (b : Int) = decide (b ∈ O) := by
      by_cases hbO : b ∈ O
      ·have h1 : (O.map Int.ofNat).contains (b : Int) = true := List.contains_iff_mem.2 (List.mem_map.2 ⟨b, hbO, rfl⟩)
       rw [h1]; simp [hbO]
      ·cases hcc : (O.map Int.ofNat).contains (b : Int) with
       | false => simp [hbO]
       | true =>
        obtain ⟨y, hy, he⟩ := List.mem_map.1 (List.contains_iff_mem.1 hcc)
        have : y = b := Int.ofNat.inj he
        exact absurd (this ▸ hy) hbO
     rw [hcon] at hrn
     have hrn' : decide (r ≥ 0) = decide (b ∈ O) := hrn
     simp only [go_sem, s_l17Body_i6, hqw2, hb, hrn, ovOf_len, ovOf_getD hb, boolsOf_len, domRow_len, boolsOf_getD _ _ hbd, domRow_getD hb, domB_self]
     refine c_seq (c_cond rfl ?_ ?_)
     ·intro hc3
      have hsk : b ∈ O ∨ rchB (nxN nx) (-1) b = false := by
       by_cases hbO : b ∈ O
       ·exact .inl hbO
       ·simp only [hbO, decide_false, cond_false] at hc3; exact .inr (not_t hc3)
      refine c_exit ?_
      simp only [go_sem, X.next]
      refine ⟨(rows.length - O.length) * (rows.length + 1) + W.length, ?_, O, W, fo, wc2, Lg, rfl, ?_, hbw.skip hsk, hq2, kn, rfl, rfl⟩
      ·simp only [List.length_cons] at hm2; omega
      ·simp only [List.length_cons] at hWl; omega
     ·intro hc3
      have hgo : b ∉ O ∧ rchB (nxN nx) (-1) b = true := by
       by_cases hbO : b ∈ O
       ·simp [hbO] at hc3
       ·simp only [hbO, decide_false, cond_false] at hc3; exact ⟨hbO, not_f hc3⟩
      refine c_skip ?_
      simp only [go_sem]
      refine s_reg ?_
      simp only [go_sem, hqw2]
      have hOI : (O.map Int.ofNat).Pairwise (· < ·) := by rw [List.pairwise_map]; exact hbw.asc.imp (fun h => by simpa using h)
      refine l7Insert_c (ns := O.map Int.ofNat) hOI (by rw [List.length_map]; omega) fun fl' ns' H5 hu h1 h2 h3 => ?_
      have kn := kn.call0 hu
      obtain ⟨O', hO', ha1, ha2⟩ : ∃ O' : List Nat, ns' = O'.map Int.ofNat ∧ O'.Pairwise (· < ·) ∧ ∀ x, x ∈ O' ↔ x = b ∨ x ∈ O := by
       have e : ∀ x, x ∈ (List.range rows.length).filter (fun y => decide (y = b ∨ y ∈ O)) ↔ x = b ∨ x ∈ O := fun x => by
        rw [List.mem_filter, List.mem_range, decide_eq_true_eq]
        refine ⟨fun h => h.2, fun h => ⟨?_, h⟩⟩
        rcases h with rfl | h
        ·exact hb
        ·exact (hbw.o x h).lt hh
       refine ⟨(List.range rows.length).filter (fun y => decide (y = b ∨ y ∈ O)), ?_, List.Pairwise.filter _ List.pairwise_lt_range, e⟩
       refine asc_ints h1 (List.Pairwise.filter _ List.pairwise_lt_range) fun x => ?_
       rw [h2]
       constructor
       ·rintro (rfl | hx)
        ·exact ⟨b, (e b).2 (.inl rfl), rfl⟩
        ·obtain ⟨y, hy, rfl⟩ := List.mem_map.1 hx
         exact ⟨y, (e y).2 (.inr hy), rfl⟩
       ·rintro ⟨y, hy, rfl⟩
        rcases (e y).1 hy with rfl | hy
        ·exact .inl rfl
        ·exact .inr (List.mem_map.2 ⟨y, hy, rfl⟩)
      have hbw' := hbw.go hgo.1 hgo.2 ha1 ha2
      have hOl' := hbw'.len hh
      have hOlen : O'.length = O.length + 1 := by
       have e1 := asc_eq (l := O') (k := O') ha1 ha1 (fun _ => Iff.rfl)
       have hp : O'.Perm (b :: O) := by
        refine (List.perm_ext_iff_of_nodup (ha1.imp (fun h => Nat.ne_of_lt h)) ?_).2 fun x => by rw [ha2]; simp
        rw [List.nodup_cons]
        exact ⟨hgo.1, hbw.asc.imp (fun h => Nat.ne_of_lt h)⟩
       simpa using hp.length_eq
      have hpb := predL_len rows.length (nxN nx) b
      have hWO' : rows.length * O'.length ≤ 10000 * 10000 := Nat.mul_le_mul (by omega) (by omega)
      have hmul : rows.length * O'.length = rows.length * O.length + rows.length := by rw [hOlen, Nat.mul_add, Nat.mul_one]
      simp only [go_sem, s_l17Body_i7, hqw2]
      refine c_reg ?_
      simp only [go_sem, hqw2]
      refine l7Preds_c (b := (b : Int)) (hg.grd H5 fl).s rfl hg.x fun H6 hu => ?_
      have kn := kn.call0 hu
      rw [predsOf_nat hf]
      simp only [go_sem, s_l17Body_i9, hqw2]
      refine Kn.growQ kn hq2 (new := predL rows.length (nxN nx) b) (.mk' _ _ _ _) (by simp only [LIM]; simp only [List.length_cons] at hWl; omega) fun t Lg' H7 hq ht kn => ?_
      simp only [go_sem, s_l17Body_i8, ht, X.next]
      refine ⟨(rows.length - O'.length) * (rows.length + 1) + (W ++ predL rows.length (nxN nx) b).length, ?_, O', _, fl', t, Lg', rfl, ?_, hbw', hq, kn, ?_, rfl⟩
      ·rw [List.length_append]
       simp only [List.length_cons] at hm2
       have : (rows.length - O.length) * (rows.length + 1) = (rows.length - O'.length) * (rows.length + 1) + (rows.length + 1) := by
        have : rows.length - O.length = (rows.length - O'.length) + 1 := by omega
        rw [this, Nat.add_mul, Nat.one_mul]
       omega
      ·rw [List.length_append]
       simp only [List.length_cons] at hWl
       omega
      ·rw [hO']; rfl
    ·intro hc2
     have hW0 : W = [] := by
      cases W with
      | nil => rfl
      | cons b W => simp at hc2
     subst hW0
     refine c_exit ?_
     simp only [go_sem, X.next]
     refine s_reg ?_
     simp only [go_sem, l7]
     refine c_ret ?_
     simp only [go_sem, endQ, retT, r_l17Body, List.mem_singleton, forall_eq, RS.op]
     have := hK false _ kn.fin
     rw [← hbw.fin hh] at this
     exact ⟨_, .c _ _ (frzc_sl (noOw_mem (natsOf_noOw _))), this⟩
end Go.AE.Y

namespace Go.AE.Y
open Go.Proofs.Tryz
variable {H H0 : Heap} {K : V → Heap → Prop} {E B Lg : List (Nat × Obj)}
theorem IsIx.neg {ns : List Int} {v r : Int} (h : IsIx ns v r) : decide (r < 0) = !ns.contains v := by
 rw [← h.nonneg]
 by_cases hr : r < 0
 ·have : ¬ 0 ≤ r := by omega
  simp [hr, this]
 ·have : 0 ≤ r := by omega
  simp [hr, this]
theorem sp_LoopBody_c {p rg : Int} {fl : Bool} {rows : List (List C)} {nx : Nat → List Int} {h : Int} (hg : GF rows nx)
  (hK : ∀ fl' H', Upd H H' [] → K (.c (.sl fl' 1 (natsOf (loopL rows.length nx h)))) H') :
  ACall prog fn_sp_LoopBody [.ag [.int .i64 p, .int .i64 rg, .sl fl 5 rows], .c (.int .i64 h)] H K := by
 refine acall_un ?_
 refine call_sound hmix m_sp_LoopBody ?_
 refine s_reg ?_
 simp only [go_sem]
 refine c_as ?_
 refine s_reg ?_
 simp only [go_sem]
 refine sp_LoopHeads_c hg fun fl1 H1 hu => ?_
 have kn := (Kn.start0 H).call0 hu
 simp only [go_sem, s_sp_LoopBody_i1]
 refine l10At_c (ns := (headsL rows.length nx).map Int.ofNat) (.mk' _ _ _ _) rfl fun r hr => ?_
 have hrn := hr.neg
 simp only [go_sem, s_sp_LoopBody_i0, hrn]
 refine c_seq (c_cond rfl (fun hc => ?_) (fun hc => ?_))
 ·have hc' := not_t hc
  refine s_reg ?_
  simp only [go_sem]
  refine c_ret ?_
  simp only [go_sem, endQ, retT, r_sp_LoopBody, List.mem_singleton, forall_eq, RS.op]
  have := hK false _ kn.fin
  rw [loopL_not hc'] at this
  exact ⟨_, .c _ _ FrzR.nil.sl, this⟩
 ·have hc' := not_f hc
  obtain ⟨k, rfl, hf, hk, _, hin, hl⟩ := headsL_mem hc'
  refine c_skip ?_
  simp only [go_sem]
  refine s_dreg ?_
  simp only [go_sem]
  refine l11Doms_c hg hf fun H2 hu => ?_
  have kn := kn.call0 hu
  simp only [go_sem, s_sp_LoopBody_i4]
  refine l17Body_c hg hf hk fun fl' H3 hu => ?_
  have kn := kn.call0 hu
  simp only [go_sem, s_sp_LoopBody_i3]
  refine c_ret ?_
  simp only [go_sem, endQ, retT, r_sp_LoopBody, List.mem_singleton, forall_eq, RS.op]
  have := hK false _ kn.fin
  rw [hl] at this
  exact ⟨_, .c _ _ (frzc_sl (noOw_mem (natsOf_noOw _))), this⟩
def shRow (ns : List Int) : List C := [.sl true 2 [], .sl true 4 [], .int .i64 0, .int .i64 0, .sl false 1 (intsOf ns)]
def shift (nx : Nat → List Int) (i : Nat) : List Int := (nx i).map (· + 1)
def shRows (nx : Nat → List Int) (n : Nat) : List (List C) := (List.range n).map fun i => shRow (shift nx i)
structure ShB where
 c : C
 lg : List (Nat × Obj)
def ShB.row (x : ShB) : List C := [.sl true 2 [], .sl true 4 [], .int .i64 0, .int .i64 0, x.c]
def ShOk (nx : Nat → List Int) (bs : List ShB) : Prop := ∀ i (h : i < bs.length), Gr bs[i].lg 1 (intsOf (shift nx i)) bs[i].c
end Go.AE.Y

namespace Go.AE.Y
open Go.Proofs.Tryz
variable {H H0 : Heap} {K : V → Heap → Prop} {E B Lg : List (Nat × Obj)}
theorem frz_tup2 {S : Nat → Bool} {a b a' b' : V} (h : FrzV H S a a') (k : FrzV H S b b') : FrzV H S (.tup [a, b]) (.tup [a', b']) := by
 refine .tup _ _ rfl fun j x x' h1 h2 => ?_
 match j with
 | 0 => simp at h1 h2; subst h1; subst h2; exact h
 | 1 => simp at h1 h2; subst h1; subst h2; exact k
 | j + 2 => simp at h1
theorem CodeD.frzSame {S : Nat → Bool} (q : CodeD) : FrzV H S (.ag q.cells) (.ag q.cells) := FrzL.ag (.cons (.same _ rfl) (.cons (.same _ rfl) (.cons (.same _ rfl) .nil)))
set_option maxHeartbeats 4000000 in
theorem l17Draw_c {fl : Bool} {bs : List UInt8} (hK : ∀ (q : CodeD) (h : Int) H', Upd H H' [] → q.gd → -1 ≤ h → h ≤ 10000 → K (.tup [.ag q.cells, .c (.int .i64 h)]) H') :
  ACall prog fn_l17Draw [.c (.sl fl 1 (bytesOf bs))] H K := by
 refine acall_un ?_
 refine call_sound hmix m_l17Draw ?_
 refine s_reg ?_
 simp only [go_sem]
 intro x2 hx2 H1 h1
 have kn := (Kn.start0 H).al hx2 h1
 simp only [go_sem, s_l17Draw_i0]
 refine s_reg ?_
 simp only [go_sem]
 refine l30Open_c fun R H2 hR h2 => ?_
 have kn := kn.al hR h2 (R.o_ne 0)
 simp only [go_sem, s_l17Draw_i1]
 refine s_reg ?_
 simp only [go_sem]
 refine l10Code_c (kn.l 1 rfl) (by omega) fun q H3 k1 hk1 hk2 hu hq => ?_
 have kn := kn.callL 1 rfl hu (R.o_ne _)
 simp only [go_sem, s_l17Draw_i3]
 intro x5 hx5 H4 h4
 have kn := kn.al hx5 h4
 have hx5 := kn.l 2 rfl
 simp only [go_sem, s_l17Draw_i2, CodeD.cells, hx5]
 intro H5 h5
 have kn : Kn H H5 [] [(x2, .st [.int .i64 0, .int .i64 0, .sl true 5 []]), (R.l, R.o k1), (x5, .st q.cells)] := kn.stL 2 rfl h5
 refine c_as ?_
 refine s_reg ?_
 simp only [go_sem]
 refine c_seq (c_block (c_loop (fun m e1 H1 => ∃ (i k : Nat) (q : CodeD), m = 8 - i ∧ i ≤ 8 ∧ k ≤ 7100000 + i * 7100002 ∧ q.gd ∧
  Kn H H1 [] [(x2, .st [.int .i64 0, .int .i64 0, .sl true 5 []]), (R.l, R.o k), (x5, .st q.cells)] ∧
  e1 = [(2, .c (.ptr x2 0)), (4, .c (.ptr R.l 0)), (5, .c (.ptr x5 0)), (6, .c (.int .i64 i))]) 8 ?_ ?_))
 ·exact ⟨0, k1, q, by omega, by omega, by omega, hq, kn, rfl⟩
 ·rintro m e1 H6 ⟨i, k, q, hm, hi, hk, hq, kn, rfl⟩
  have fin : ∀ (e : Env) (H7 : Heap) (k : Nat), k ≤ 7100000 + 8 * 7100002 + 1 → lk 2 e = .c (.ptr x2 0) → lk 4 e = .c (.ptr R.l 0) → lk 5 e = .c (.ptr x5 0) → Kn H H7 [] [(x2, .st [.int .i64 0, .int .i64 0, .sl true 5 []]), (R.l, R.o k), (x5, .st q.cells)] →
    codeT prog s_l17Draw_17 (endQ r_l17Draw fun x H' => ∃ x', FrzV H' (un H) x x' ∧ K x' (H'.frz (un H))) e H7 := by
   intro e H7 k hk l2 l4 l5 kn
   have hx5 := kn.l 2 rfl
   have hb0 := hq.b0
   have hb1 := hq.b1
   refine s_dreg ?_
   simp only [go_sem, l2, l4, l5, hx5, CodeD.cells, blksOf_len]
   refine ⟨inR64 (by omega) (by omega), ?_⟩
   refine pick_c (kn.l 1 rfl) (by omega) fun v H8 hv hu => ?_
   have kn := kn.callL 1 rfl hu (R.o_ne _)
   have hx5 := kn.l 2 rfl
   have hx2 := kn.l 0 rfl
   rw [if_neg (by omega)] at hv
   simp only [go_sem, s_l17Draw_i16, l2, l4, l5, hx5, hx2, CodeD.cells]
   refine ⟨inR64 (by omega) (by omega), fun H9 h9 => ?_⟩
   have kn := kn.stL 0 rfl h9
   have hx2 := kn.l 0 rfl
   simp only [go_sem, s_l17Draw_i15, l2]
   refine c_ret ?_
   simp only [go_sem, endQ, retT, r_l17Draw, List.forall_mem_cons, List.not_mem_nil, RS.op, hx2]
   exact ⟨fun _ => trivial, _, frz_tup2 q.frzSame (.c _ _ (frzc_same rfl)), hK q _ _ kn.fin hq (by omega) (by omega)⟩
  refine c_as ?_
  refine s_reg ?_
  simp only [go_sem]
  refine ⟨fun hlt => ?_, fun hlt => ?_⟩
  ·have hi8 : i < 8 := by have := of_decide_eq_true hlt; omega
   refine pick_c (kn.l 1 rfl) (by omega) fun v H7 hv hu => ?_
   have kn := kn.callL 1 rfl hu (R.o_ne _)
   simp only [go_sem, s_l17Draw_i4, hlt, cond_true]
   refine c_seq (c_cond rfl (fun hp => ?_) (fun hp => ?_))
   ·refine c_skip ?_
    simp only [go_sem]
    refine c_cut (fun e2 H8 => ∃ (k : Nat) (q : CodeD), k ≤ 7100000 + (i + 1) * 7100002 ∧ q.gd ∧
     Kn H H8 [] [(x2, .st [.int .i64 0, .int .i64 0, .sl true 5 []]), (R.l, R.o k), (x5, .st q.cells)] ∧
     lk 2 e2 = .c (.ptr x2 0) ∧ lk 4 e2 = .c (.ptr R.l 0) ∧ lk 5 e2 = .c (.ptr x5 0) ∧ lk 6 e2 = .c (.int .i64 i)) ?_ ?_
    ·intro Q hnr hr _
     have hx5 := kn.l 2 rfl
     refine c_block ?_
     refine s_reg ?_
     simp only [go_sem, hx5, CodeD.cells]
     refine sp_LoopHeads_c (gf_code hq) fun fl' H8 hu => ?_
     have kn := kn.call0 hu
     simp only [go_sem, s_l17Draw_i5]
     refine c_as ?_
     refine s_reg ?_
     simp only [go_sem, natsOf_len]
     intro _
     refine c_seq (c_cond rfl (fun hc => ?_) (fun hc => ?_))
     ·have hpos : 0 < (headsL (blksOf q.blocks).length (gnx q)).length := by simpa using hc
      have hx5 := kn.l 2 rfl
      refine s_dreg ?_
      simp only [go_sem, hx5, CodeD.cells, natsOf_len]
      refine pick_c (kn.l 1 rfl) (by omega) fun v H9 hv hu => ?_
      have kn := kn.callL 1 rfl hu (R.o_ne _)
      have hx5 := kn.l 2 rfl
      have hx2 := kn.l 0 rfl
      rw [if_neg (by omega)] at hv
      obtain ⟨vn, rfl⟩ := Int.eq_ofNat_of_zero_le hv.1
      have hvn : vn < (headsL (blksOf q.blocks).length (gnx q)).length := by omega
      have hhd : (headsL (blksOf q.blocks).length (gnx q)).getD vn 0 < 10000 := by
       have hmem : (headsL (blksOf q.blocks).length (gnx q)).getD vn 0 ∈ headsL (blksOf q.blocks).length (gnx q) := by
        rw [List.getD_eq_getElem?_getD, List.getElem?_eq_getElem hvn]; exact List.getElem_mem hvn
       obtain ⟨k2, he, _, hlt2, _⟩ := headsL_mem (h := ((headsL (blksOf q.blocks).length (gnx q)).getD vn 0 : Nat)) (List.contains_iff_mem.2 (List.mem_map.2 ⟨_, hmem, rfl⟩))
       have hb1 := hq.b1
       rw [blksOf_len] at hlt2
       omega
      simp only [go_sem, s_l17Draw_i7, hx5, hx2, CodeD.cells, hvn, natsOf_len, natsOf_getD _ _ hvn]
      intro H10 h10
      have kn := kn.stL 0 rfl h10
      have hx2 := kn.l 0 rfl
      simp only [go_sem, s_l17Draw_i6, hvn, natsOf_len, natsOf_getD _ _ hvn]
      refine c_ret ?_
      refine hr _ _ ?_
      simp only [go_sem, X.next, endQ, retT, r_l17Draw, List.forall_mem_cons, List.not_mem_nil, RS.op, hx2]
      exact ⟨fun _ => trivial, _, frz_tup2 q.frzSame (.c _ _ (frzc_same rfl)), hK q _ _ kn.fin hq (by omega) (by omega)⟩
     ·refine c_skip ?_
      simp only [go_sem]
      refine c_reg ?_
      simp only [go_sem]
      refine l10Code_c (kn.l 1 rfl) (by omega) fun q2 H9 k2 hk3 hk4 hu hq2 => ?_
      have kn := kn.callL 1 rfl hu (R.o_ne _)
      have hx5 := kn.l 2 rfl
      simp only [go_sem, s_l17Draw_i9, CodeD.cells, hx5]
      intro H10 h10
      have kn : Kn H H10 [] [(x2, .st [.int .i64 0, .int .i64 0, .sl true 5 []]), (R.l, R.o k2), (x5, .st q2.cells)] := kn.stL 2 rfl h10
      exact hnr _ _ ⟨k2, q2, by omega, hq2, kn, rfl, rfl, rfl, rfl⟩
    ·rintro e2 H8 ⟨k2, q2, hk2, hq2, kn, l2, l4, l5, l6⟩
     refine c_reg ?_
     simp only [go_sem, X.next, l2, l4, l5, l6]
     exact ⟨inR64 (by omega) (by omega), 8 - (i + 1), by omega, i + 1, k2, q2, rfl, by omega, hk2, hq2, kn, rfl⟩
   ·refine c_exit ?_
    simp only [go_sem, X.next]
    exact fin _ _ _ (by omega) rfl rfl rfl kn
  ·simp only [go_sem, s_l17Draw_i4, hlt, cond_false]
   refine c_seq (c_cond rfl (fun hp => by simp at hp) (fun hp => ?_))
   refine c_exit ?_
   simp only [go_sem, X.next]
   exact fin _ _ _ (by omega) rfl rfl rfl kn
end Go.AE.Y

namespace Go.AE.Y
theorem set_perm_cons {α : Type} [BEq α] [LawfulBEq α] (l : List α) (i : Nat) (h : i < l.length) (x : α) (a : α) : (l.set i x).count a + (if l[i] == a then 1 else 0) = l.count a + (if x == a then 1 else 0) := by
 induction l generalizing i with
 | nil => simp at h
 | cons y l ih =>
  cases i with
  | zero => simp only [List.set_cons_zero, List.count_cons, List.getElem_cons_zero]; omega
  | succ i =>
   have := ih i (by simpa using h)
   simp only [List.set_cons_succ, List.count_cons, List.getElem_cons_succ]
   omega
theorem swap_perm (l : List Int) {i j : Nat} (hi : i < l.length) (hj : j < l.length) (hij : i ≠ j) : ((l.set i (l.getD j 0)).set j (l.getD i 0)).Perm l := by
 rw [List.perm_iff_count]
 intro a
 have e1 : l.getD i 0 = l[i] := by simp [List.getD_eq_getElem?_getD, hi]
 have e2 : l.getD j 0 = l[j] := by simp [List.getD_eq_getElem?_getD, hj]
 have h1 := set_perm_cons l i hi (l.getD j 0) a
 have h2 := set_perm_cons (l.set i (l.getD j 0)) j (by simpa using hj) (l.getD i 0) a
 have e3 : (l.set i (l.getD j 0))[j]'(by simpa using hj) = l[j] := by rw [List.getElem_set_ne hij]
 rw [e3] at h2
 rw [e1, e2] at *
 omega
end Go.AE.Y

namespace Go.AE.Y
open Go.Proofs.Tryz
variable {H H0 : Heap} {K : V → Heap → Prop} {E B Lg : List (Nat × Obj)}
theorem Reverse_c {c : C} {ns : List Int} (kn : Kn H0 H E (B ++ Lg)) (hgr : Gr Lg 1 (intsOf ns) c) (hL : ns.length ≤ 2 ^ 38)
  (hK : ∀ Lg' ns' H', Gr Lg' 1 (intsOf ns') c → Kn H0 H' E (B ++ Lg') → ns'.Perm ns → K (.tup []) H') : ACall prog fn_sl_Reverse [.c c] H K := by
 have how := hgr.isOw
 have hok := eq_true (hgr.okSl kn)
 have hlen := hgr.lenC
 refine call_sound hmix m_sl_Reverse ?_
 refine s_reg ?_
 simp only [go_sem, how, hok, hlen, intsOf_len]
 intro _
 refine ⟨inR64 (by omega) (by omega), ?_⟩
 refine c_block (c_loop (fun m e1 H1 => ∃ (i : Nat) (j : Int) (ns' : List Int) (Lg' : List (Nat × Obj)), m = ns.length - i ∧ i ≤ ns.length ∧ j < ns.length ∧ -1 ≤ j ∧ ns'.Perm ns ∧ Gr Lg' 1 (intsOf ns') c ∧ Kn H0 H1 E (B ++ Lg') ∧
  e1 = [(0, .c c), (2, .c (.int .i64 i)), (3, .c (.int .i64 j))]) ns.length ?_ ?_)
 ·exact ⟨0, (ns.length : Int) - 1, ns, Lg, by omega, by omega, by omega, by omega, .refl _, hgr, kn, rfl⟩
 ·rintro m e1 H1 ⟨i, j, ns', Lg', hm, hi, hj, hj0, hp, hgr, kn, rfl⟩
  have hpl := hp.length_eq
  refine c_as ?_
  refine s_reg ?_
  simp only [go_sem, how]
  refine c_seq (c_cond rfl ?_ ?_)
  ·intro hc
   have hij : (i : Int) < j := of_decide_eq_true hc
   obtain ⟨jn, rfl⟩ := Int.eq_ofNat_of_zero_le (by omega : 0 ≤ j)
   have hil : i < ns'.length := by omega
   have hjl : jn < ns'.length := by omega
   obtain ⟨z, rfl, rfl⟩ : ∃ z, c = .vsl z 1 0 ns'.length ∧ Lg' = [(z, .vec 1 (intsOf ns'))] := by
    rcases hgr with ⟨_, h, _⟩ | ⟨y, h1, h2⟩
    ·have : ns'.length = 0 := by rw [← intsOf_len, h]; rfl
     omega
    ·exact ⟨y, by rw [h1, intsOf_len], h2⟩
   have hz := kn.l B.length (l := z) (o := .vec 1 (intsOf ns')) (by simp)
   have htk : (intsOf ns').take ns'.length = intsOf ns' := List.take_of_length_le (by rw [intsOf_len]; exact Nat.le_refl _)
   refine c_skip ?_
   simp only [go_sem]
   refine c_seq (c_block ?_)
   refine c_dreg ?_
   simp only [go_sem, hz, hil, hjl, htk, intsOf_len, intsOf_getD _ _ hil, intsOf_getD _ _ hjl, intsOf_set, Nat.zero_add, Nat.le_refl]
   intro H2 h2
   have kn2 := kn.stL B.length (x := z) (o := .vec 1 (intsOf ns')) (by simp) h2
   have kn : Kn H0 H2 E (B ++ [(z, .vec 1 (intsOf (ns'.set i (ns'.getD jn 0))))]) := by simpa using kn2
   have hz := kn.l B.length (l := z) (o := .vec 1 (intsOf (ns'.set i (ns'.getD jn 0)))) (by simp)
   have hjl2 : jn < (ns'.set i (ns'.getD jn 0)).length := by simpa using hjl
   simp only [go_sem, s_sl_Reverse_i0, hz, hjl, intsOf_len, List.length_set, intsOf_getD _ _ hjl2, intsOf_set, Nat.zero_add, Nat.le_refl]
   intro H3 h3
   have kn3 := kn.stL B.length (x := z) (o := .vec 1 (intsOf (ns'.set i (ns'.getD jn 0)))) (by simp) h3
   have kn : Kn H0 H3 E (B ++ [(z, .vec 1 (intsOf ((ns'.set i (ns'.getD jn 0)).set jn (ns'.getD i 0))))]) := by simpa using kn3
   have hlen2 : ((ns'.set i (ns'.getD jn 0)).set jn (ns'.getD i 0)).length = ns'.length := by simp
   refine c_reg ?_
   simp only [go_sem, X.next]
   refine ⟨inR64 (by omega) (by omega), inR64 (by omega) (by omega), ns.length - (i + 1), by omega, i + 1, (jn : Int) - 1, (ns'.set i (ns'.getD jn 0)).set jn (ns'.getD i 0), [(z, .vec 1 (intsOf ((ns'.set i (ns'.getD jn 0)).set jn (ns'.getD i 0))))], rfl, by omega, by omega, by omega, ?_, ?_, kn, rfl⟩
   ·refine List.Perm.trans ?_ hp
    have := swap_perm ns' hil hjl (by omega)
    exact this
   ·exact .inr ⟨z, by rw [intsOf_len, hlen2], rfl⟩
  ·intro hc
   refine c_exit ?_
   simp only [go_sem, X.next, endQ, retT, r_sl_Reverse, List.not_mem_nil]
   exact ⟨fun _ => trivial, hK Lg' ns' H1 hgr kn hp⟩
end Go.AE.Y

namespace Go.AE.Y
attribute [local instance] Classical.propDecidable
def flt (nx : Nat → List Int) (L : List Int) (i : Nat) : List Int := (nx i).filter fun n => L.contains (i : Int) && L.contains n
def gy (nx : Nat → List Int) (b : Nat) : Nat → List Int
 | 0 => [(b : Int) + 1]
 | i + 1 => (nx i).map (· + 1)
variable {n h b : Nat} {nx : Nat → List Int}
theorem nat_contains {L : List Nat} {x : Nat} : (L.map Int.ofNat).contains (x : Int) = decide (x ∈ L) := by
 by_cases h : x ∈ L
 ·have h1 : (L.map Int.ofNat).contains (x : Int) = true := List.contains_iff_mem.2 (List.mem_map.2 ⟨x, h, rfl⟩)
  rw [h1]; simp [h]
 ·cases hc : (L.map Int.ofNat).contains (x : Int) with
  | false => simp [h]
  | true =>
   obtain ⟨y, hy, he⟩ := List.mem_map.1 (List.contains_iff_mem.1 hc)
   exact absurd ((Int.ofNat.inj he) ▸ hy) h
theorem head_in_body (hh : h < n) {g : Nat → List Nat} : h ∈ bodyL n g h := (bodyL_mem hh).2 .head
end Go.AE.Y

namespace Go.AE.Y
attribute [local instance] Classical.propDecidable
noncomputable def outS (n : Nat) (g : Nat → List Nat) (h : Nat) (s : Int × Int) (o : Nat) : Int × Int :=
 if (!decide (o = h) && decide (h ∈ bodyL n g o)) && (decide (s.1 < 0) || decide (((bodyL n g o).length : Int) < s.2)) then ((o : Int), ((bodyL n g o).length : Int)) else s
noncomputable def outF (n : Nat) (g : Nat → List Nat) (h : Nat) (l : List Nat) : Int × Int := l.foldl (outS n g h) (-1, 0)
variable {n : Nat} {g : Nat → List Nat} {h o b k : Nat}
theorem outF_snoc (l : List Nat) (o : Nat) : outF n g h (l ++ [o]) = outS n g h (outF n g h l) o := by simp [outF, List.foldl_append]
theorem snocInd {α : Type} {p : List α → Prop} (h0 : p []) (h1 : ∀ l x, p l → p (l ++ [x])) (l : List α) : p l := by
 have key : ∀ l : List α, p l.reverse := by
  intro l
  induction l with
  | nil => exact h0
  | cons x l ih => rw [List.reverse_cons]; exact h1 _ _ ih
 have := key l.reverse
 rwa [List.reverse_reverse] at this
theorem outF_is (l : List Nat) : (outF n g h l).1 = -1 ∨ ∃ o ∈ l, (outF n g h l).1 = o ∧ o ≠ h ∧ h ∈ bodyL n g o := by
 induction l using snocInd with
 | h0 => exact .inl rfl
 | h1 l o ih =>
  rw [outF_snoc, outS]
  split
  ·rename_i hc
   simp only [Bool.and_eq_true, Bool.not_eq_true', decide_eq_false_iff_not, decide_eq_true_eq] at hc
   exact .inr ⟨o, by simp, rfl, hc.1.1, hc.1.2⟩
  ·rcases ih with h1 | ⟨o', h1, h2⟩
   ·exact .inl h1
   ·exact .inr ⟨o', by simp [h1], h2⟩
theorem Bdy.ruled (hi : rchB g (-1) h = true) (hb : Bdy n g h b) : domB g h b = true := by
 have key : b = h ∨ ∃ p, p ∈ predL n g h ∧ domB g h p = true ∧ Rch g (fun z => (z : Int) = h) b p := by
  induction hb with
  | head => exact .inl rfl
  | @back p h1 h2 =>
   by_cases hp : p = h
   ·exact .inl hp
   ·exact .inr ⟨p, h1, h2, .refl (by omega)⟩
  | @more b p h1 h2 h3 h4 ih =>
   by_cases hp : p = h
   ·exact .inl hp
   ·rcases ih with ih | ⟨q, q1, q2, q3⟩
    ·exact absurd ih h2
    ·exact .inr ⟨q, q1, q2, .head (by omega) (predL_mem.1 h3).2 q3⟩
 have hbi := hb.reached hi
 rcases key with rfl | ⟨p, h1, h2, h3⟩
 ·rw [domB_self]; exact hi
 ·have hno : rchB g (h : Int) b = false := by
   cases hc : rchB g (h : Int) b with
   | false => rfl
   | true =>
    have h4 : rchB g (h : Int) p = true := rchB_iff.2 ((rchB_iff.1 hc).trans h3)
    simp only [domB, h4] at h2
    simp at h2
  simp [domB, hi, hbi, hno]
theorem dom_antisymm (h1 : domB g o h = true) (h2 : domB g h o = true) (hne : o ≠ h) : False := by
 simp only [domB, Bool.and_eq_true, Bool.not_eq_true'] at h1 h2
 have hr := rchB_iff.1 h1.1.2
 have key : ∀ y, Rch g (fun z => (z : Int) = -1) 0 y → rchB g (o : Int) y = true ∧ rchB g (h : Int) y = true ∨ rchB g (h : Int) o = true ∨ rchB g (o : Int) h = true := by
  intro y hr
  induction hr with
  | refl _ =>
   by_cases ho : (0 : Nat) = o
   ·refine .inr (.inl ?_)
    subst ho; exact rchB_iff.2 (.refl (by omega))
   ·by_cases hh : (0 : Nat) = h
    ·refine .inr (.inr ?_)
     subst hh; exact rchB_iff.2 (.refl (by omega))
    ·exact .inl ⟨rchB_iff.2 (.refl (by omega)), rchB_iff.2 (.refl (by omega))⟩
  | @step y z r1 r2 r3 ih =>
   rcases ih with ⟨a1, a2⟩ | ih
   ·by_cases hzo : z = o
    ·subst hzo
     exact .inr (.inl (rchB_iff.2 ((rchB_iff.1 a2).step r2 (by omega))))
    ·by_cases hzh : z = h
     ·subst hzh
      exact .inr (.inr (rchB_iff.2 ((rchB_iff.1 a1).step r2 (by omega))))
     ·exact .inl ⟨rchB_iff.2 ((rchB_iff.1 a1).step r2 (by omega)), rchB_iff.2 ((rchB_iff.1 a2).step r2 (by omega))⟩
   ·exact .inr ih
 rcases key h hr with ⟨a1, a2⟩ | a | a
 ·rw [rchB_self] at a2; simp at a2
 ·rw [h2.2] at a; simp at a
 ·rw [h1.2] at a; simp at a
theorem Bdy.within (hi : rchB g (-1) h = true) (hio : rchB g (-1) o = true) (hne : o ≠ h) (ho : Bdy n g o h) (hb : Bdy n g h b) : Bdy n g o b ∧ b ≠ o := by
 have hoh := ho.ruled hio
 have hno : ∀ b, Bdy n g h b → b ≠ o := fun b hb e => by
  subst e
  exact dom_antisymm hoh (hb.ruled hi) hne
 refine ⟨?_, hno b hb⟩
 induction hb with
 | head => exact ho
 | @back p h1 h2 => exact .more ho (fun e => hne e.symm) h1 (domB_in h2).2
 | @more b p h1 h2 h3 h4 ih => exact .more ih (hno b h1) h3 h4
noncomputable def depN (n : Nat) (g : Nat → List Nat) (b : Nat) : Nat := ((headL n g).filter fun k => decide (b ∈ bodyL n g k)).length
theorem headL_reached (hk : k ∈ headL n g) : k < n ∧ rchB g (-1) k = true := by
 obtain ⟨h1, p, _, h2⟩ := headL_mem.1 hk
 exact ⟨h1, (domB_in h2).1⟩
theorem filter_lt {l : List Nat} {p q : Nat → Bool} (hpq : ∀ x ∈ l, p x = true → q x = true) {y : Nat} (hy : y ∈ l) (hq : q y = true) (hp : p y = false) : (l.filter p).length < (l.filter q).length := by
 induction l with
 | nil => simp at hy
 | cons x l ih =>
  have hle : ∀ l : List Nat, (∀ x ∈ l, p x = true → q x = true) → (l.filter p).length ≤ (l.filter q).length := by
   intro l hl
   induction l with
   | nil => simp
   | cons z l ih2 =>
    have := ih2 fun x hx => hl x (List.mem_cons_of_mem _ hx)
    have hz := hl z List.mem_cons_self
    simp only [List.filter_cons]
    cases hpz : p z with
    | false => cases q z <;> simp <;> omega
    | true => rw [hz hpz]; simp; omega
  have hl := hle l fun x hx => hpq x (List.mem_cons_of_mem _ hx)
  simp only [List.filter_cons]
  rcases List.mem_cons.1 hy with rfl | hy
  ·rw [hq, hp]; simp; omega
  ·have := ih (fun x hx => hpq x (List.mem_cons_of_mem _ hx)) hy
   have hx := hpq x List.mem_cons_self
   cases hpx : p x with
   | false => cases q x <;> simp <;> omega
   | true => rw [hx hpx]; simp; omega
theorem depN_lt (hh : h ∈ headL n g) (ho : o ∈ headL n g) (hne : o ≠ h) (hb : h ∈ bodyL n g o) : depN n g o < depN n g h := by
 obtain ⟨h1, h2⟩ := headL_reached hh
 obtain ⟨o1, o2⟩ := headL_reached ho
 have hB := (bodyL_mem o1).1 hb
 refine filter_lt (fun k hk hp => ?_) hh (by simpa using head_in_body h1) ?_
 ·obtain ⟨k1, k2⟩ := headL_reached hk
  simp only [decide_eq_true_eq] at hp ⊢
  by_cases hko : k = o
  ·subst hko; exact hb
  ·exact (bodyL_mem k1).2 (Bdy.within o2 k2 hko ((bodyL_mem k1).1 hp) hB).1
 ·simp only [decide_eq_false_iff_not]
  intro hm
  exact (Bdy.within h2 o2 hne hB ((bodyL_mem h1).1 hm)).2 rfl
end Go.AE.Y

namespace Go.AE.Y
open Go.Proofs.Tryz
variable {H H0 : Heap} {K : V → Heap → Prop} {E B Lg : List (Nat × Obj)}
theorem Dominates_c {p rg : Int} {fl : Bool} {rows : List (List C)} {nx : Nat → List Int} {a b : Nat} (hg : GF rows nx) (hf : fitsB rows.length nx = true) (ha : a < rows.length) (hb : b < rows.length)
  (hK : ∀ H', Upd H H' [] → K (.c (.bool (domB (nxN nx) a b))) H') :
  ACall prog fn_im_Dominates [.ag [.int .i64 p, .int .i64 rg, .sl fl 5 rows], .c (.int .i64 a), .c (.int .i64 b)] H K := by
 refine acall_un ?_
 refine call_sound hmix m_im_Dominates ?_
 refine s_reg ?_
 simp only [go_sem]
 refine s_reg ?_
 simp only [go_sem]
 refine domsOf_c hg (fun hf' => by rw [hf] at hf'; simp at hf') (fun _ H1 hu => ?_)
 have kn := (Kn.start0 H).call0 hu
 simp only [go_sem, s_im_Dominates_i1]
 refine dominates_c ha hb ?_
 simp only [go_sem, s_im_Dominates_i0]
 refine c_ret ?_
 simp only [go_sem, endQ, retT, r_im_Dominates, List.mem_singleton, forall_eq, RS.op]
 exact ⟨_, .c _ _ (frzc_same rfl), hK _ kn.fin⟩
theorem headL_len {n : Nat} {g : Nat → List Nat} : (headL n g).length ≤ n := by
 rw [headL]; exact Nat.le_trans (List.length_filter_le _ _) (by simp)
theorem headL_getD {n : Nat} {g : Nat → List Nat} {i : Nat} (hi : i < (headL n g).length) : (headL n g).getD i 0 = (headL n g)[i] ∧ (headL n g).getD i 0 < n ∧ rchB g (-1) ((headL n g).getD i 0) = true := by
 have e : (headL n g).getD i 0 = (headL n g)[i] := by simp [List.getD_eq_getElem?_getD, hi]
 refine ⟨e, ?_⟩
 rw [e]
 exact headL_reached (List.getElem_mem hi)
noncomputable def depT (n : Nat) (g : Nat → List Nat) (b i : Nat) : Nat := (((headL n g).take i).filter fun k => decide (b ∈ bodyL n g k)).length
theorem depT_all {n : Nat} {g : Nat → List Nat} {b i : Nat} (hi : (headL n g).length ≤ i) : depT n g b i = depN n g b := by rw [depT, List.take_of_length_le hi]; rfl
theorem depT_le {n : Nat} {g : Nat → List Nat} {b i : Nat} : depT n g b i ≤ i := by
 refine Nat.le_trans (List.length_filter_le _ _) ?_
 rw [List.length_take]; omega
theorem depT_succ {n : Nat} {g : Nat → List Nat} {b i : Nat} (hi : i < (headL n g).length) : depT n g b (i + 1) = depT n g b i + if b ∈ bodyL n g ((headL n g).getD i 0) then 1 else 0 := by
 have e : (headL n g).getD i 0 = (headL n g)[i] := by simp [List.getD_eq_getElem?_getD, hi]
 rw [depT, depT, List.take_succ_eq_append_getElem hi, List.filter_append, List.length_append, e]
 congr 1
 by_cases hb : b ∈ bodyL n g (headL n g)[i] <;> simp [hb]
theorem LoopDepth_c {p rg : Int} {fl : Bool} {rows : List (List C)} {nx : Nat → List Int} {b : Nat} (hg : GF rows nx) (hf : fitsB rows.length nx = true) (hb : b < rows.length) (hbi : rchB (nxN nx) (-1) b = true)
  (hK : ∀ H', Upd H H' [] → K (.c (.int .i64 (depN rows.length (nxN nx) b))) H') :
  ACall prog fn_im_LoopDepth [.ag [.int .i64 p, .int .i64 rg, .sl fl 5 rows], .c (.int .i64 b)] H K := by
 have hn := hg.n
 have hhl := headL_len (n := rows.length) (g := nxN nx)
 refine acall_un ?_
 refine call_sound hmix m_im_LoopDepth ?_
 refine s_reg ?_
 simp only [go_sem]
 refine s_reg ?_
 simp only [go_sem]
 refine domsOf_c hg (fun hf' => by rw [hf] at hf'; simp at hf') (fun _ H1 hu => ?_)
 have kn := (Kn.start0 H).call0 hu
 simp only [go_sem, s_im_LoopDepth_i0]
 refine c_as ?_
 refine s_reg ?_
 simp only [go_sem]
 refine has_c hb ?_
 simp only [go_sem, s_im_LoopDepth_i1, hbi]
 refine c_seq (c_cond rfl (fun h => by simp at h) (fun _ => ?_))
 refine c_skip ?_
 simp only [go_sem]
 refine s_reg ?_
 simp only [go_sem]
 refine c_as ?_
 refine s_reg ?_
 simp only [go_sem]
 refine heads_c hg hf fun H2 hu => ?_
 have kn := kn.call0 hu
 simp only [go_sem, s_im_LoopDepth_i3, natsOf_len]
 intro _
 refine c_seq (c_block (c_loop (fun m e1 H1 => ∃ (i : Nat), m = (headL rows.length (nxN nx)).length - i ∧ i ≤ (headL rows.length (nxN nx)).length ∧ Kn H H1 [] [] ∧
  e1 = [(1, .c (.int .i64 b)), (5, .c (.pp (domC p rg fl rows (nxN nx)))), (6, .c (.int .i64 (depT rows.length (nxN nx) b i))), (16, .c (.sl false 1 (natsOf (headL rows.length (nxN nx))))), (17, .c (.int .i64 (headL rows.length (nxN nx)).length)), (18, .c (.int .i64 i))]) (headL rows.length (nxN nx)).length ?_ ?_))
 ·exact ⟨0, by omega, by omega, kn, rfl⟩
 ·rintro m e1 H3 ⟨i, hm, hi, kn, rfl⟩
  refine s_reg ?_
  simp only [go_sem]
  refine c_seq (c_cond rfl ?_ ?_)
  ·intro hc
   have hlt : i < (headL rows.length (nxN nx)).length := by simpa using hc
   obtain ⟨_, h2, h3⟩ := headL_getD hlt
   refine c_skip ?_
   simp only [go_sem]
   refine c_cut (fun e2 H4 => Kn H H4 [] [] ∧ lk 1 e2 = .c (.int .i64 b) ∧ lk 5 e2 = .c (.pp (domC p rg fl rows (nxN nx))) ∧ lk 6 e2 = .c (.int .i64 (depT rows.length (nxN nx) b (i + 1))) ∧ lk 16 e2 = .c (.sl false 1 (natsOf (headL rows.length (nxN nx)))) ∧ lk 17 e2 = .c (.int .i64 (headL rows.length (nxN nx)).length) ∧ lk 18 e2 = .c (.int .i64 i)) ?_ ?_
   ·intro Q hnr _ _
    refine c_block ?_
    refine s_reg ?_
    simp only [go_sem, hlt, natsOf_len, natsOf_getD _ _ hlt]
    refine s_reg ?_
    simp only [go_sem]
    refine body_c hg hf h2 h3 fun fl' H4 hu => ?_
    have kn := kn.call0 hu
    simp only [go_sem, s_im_LoopDepth_i4]
    refine Contains_c (ns := (bodyL rows.length (nxN nx) ((headL rows.length (nxN nx)).getD i 0)).map Int.ofNat) (.mk' _ _ _ _) rfl ?_
    rw [nat_contains]
    have hd := depT_le (n := rows.length) (g := nxN nx) (b := b) (i := i)
    have hs := depT_succ (b := b) hlt
    refine c_cond rfl ?_ ?_
    ·intro hc2
     have hm2 : b ∈ bodyL rows.length (nxN nx) ((headL rows.length (nxN nx)).getD i 0) := by simpa using hc2
     rw [if_pos hm2] at hs
     refine c_reg ?_
     simp only [go_sem]
     refine ⟨inR64 (by omega) (by omega), ?_⟩
     refine hnr _ _ ⟨kn, rfl, rfl, ?_, rfl, rfl, rfl⟩
     rw [hs]; rfl
    ·intro hc2
     have hm2 : ¬ b ∈ bodyL rows.length (nxN nx) ((headL rows.length (nxN nx)).getD i 0) := by simpa using hc2
     rw [if_neg hm2] at hs
     refine c_skip ?_
     simp only [go_sem]
     refine hnr _ _ ⟨kn, rfl, rfl, ?_, rfl, rfl, rfl⟩
     rw [hs]; rfl
   ·rintro e2 H4 ⟨kn, l1, l5, l6, l16, l17, l18⟩
    refine c_reg ?_
    simp only [go_sem, X.next, l1, l5, l6, l16, l17, l18]
    exact ⟨inR64 (by omega) (by omega), (headL rows.length (nxN nx)).length - (i + 1), by omega, i + 1, rfl, by omega, kn, rfl⟩
  ·intro hc
   have hge : (headL rows.length (nxN nx)).length ≤ i := by simpa using hc
   refine c_exit ?_
   simp only [go_sem, X.next]
   refine s_reg ?_
   simp only [go_sem]
   refine c_ret ?_
   simp only [go_sem, endQ, retT, r_im_LoopDepth, List.mem_singleton, forall_eq, RS.op]
   rw [depT_all hge]
   exact ⟨_, .c _ _ (frzc_same rfl), hK _ kn.fin⟩
noncomputable def outI (n : Nat) (nx : Nat → List Int) (h : Int) : Int := if ((headsL n nx).map Int.ofNat).contains h then (outF n (nxN nx) h.toNat (headL n (nxN nx))).1 else -1
theorem outI_not {n : Nat} {nx : Nat → List Int} {h : Int} (hh : ((headsL n nx).map Int.ofNat).contains h = false) : outI n nx h = -1 := by rw [outI, hh]; rfl
theorem outI_yes {n : Nat} {nx : Nat → List Int} {k : Nat} (hh : ((headsL n nx).map Int.ofNat).contains (k : Int) = true) : outI n nx k = (outF n (nxN nx) k (headL n (nxN nx))).1 := by rw [outI, hh]; rfl
theorem outF_take_succ {n : Nat} {g : Nat → List Nat} {h i : Nat} {l : List Nat} (hi : i < l.length) : outF n g h (l.take (i + 1)) = outS n g h (outF n g h (l.take i)) (l.getD i 0) := by
 rw [List.take_succ_eq_append_getElem hi, outF_snoc]
 congr 1
 simp [List.getD_eq_getElem?_getD, hi]
theorem outS_t {n : Nat} {g : Nat → List Nat} {h o : Nat} {s : Int × Int} (h1 : o ≠ h) (h2 : h ∈ bodyL n g o) (h3 : s.1 < 0 ∨ ((bodyL n g o).length : Int) < s.2) : outS n g h s o = ((o : Int), ((bodyL n g o).length : Int)) := by
 rw [outS, if_pos]
 simp only [Bool.and_eq_true, Bool.or_eq_true, Bool.not_eq_true', decide_eq_false_iff_not, decide_eq_true_eq]
 exact ⟨⟨h1, h2⟩, h3⟩
theorem outS_f {n : Nat} {g : Nat → List Nat} {h o : Nat} {s : Int × Int} (h0 : ¬ (o ≠ h ∧ h ∈ bodyL n g o ∧ (s.1 < 0 ∨ ((bodyL n g o).length : Int) < s.2))) : outS n g h s o = s := by
 rw [outS, if_neg]
 simp only [Bool.and_eq_true, Bool.or_eq_true, Bool.not_eq_true', decide_eq_false_iff_not, decide_eq_true_eq]
 rintro ⟨⟨h1, h2⟩, h3⟩
 exact h0 ⟨h1, h2, h3⟩
end Go.AE.Y

namespace Go.AE.Y
open Go.Proofs.Tryz
variable {H H0 : Heap} {K : V → Heap → Prop} {E B Lg : List (Nat × Obj)}
set_option maxHeartbeats 1000000 in
theorem LoopOuter_c {p rg : Int} {fl : Bool} {rows : List (List C)} {nx : Nat → List Int} {h : Int} (hg : GF rows nx)
  (hK : ∀ H', Upd H H' [] → K (.c (.int .i64 (outI rows.length nx h))) H') :
  ACall prog fn_im_LoopOuter [.ag [.int .i64 p, .int .i64 rg, .sl fl 5 rows], .c (.int .i64 h)] H K := by
 have hn := hg.n
 have hhl := headL_len (n := rows.length) (g := nxN nx)
 refine acall_un ?_
 refine call_sound hmix m_im_LoopOuter ?_
 refine s_reg ?_
 simp only [go_sem]
 refine s_reg ?_
 simp only [go_sem]
 refine domsOf_c hg (fun hf H1 hu => ?_) (fun hf H1 hu => ?_)
 ·have kn := (Kn.start0 H).call0 hu
  simp only [go_sem, s_im_LoopOuter_i0]
  refine c_as ?_
  refine s_reg ?_
  simp only [go_sem, C.isPtr, s_im_LoopOuter_i2, s_im_LoopOuter_i1]
  refine ⟨.inr trivial, ?_⟩
  refine c_seq (c_cond rfl (fun _ => ?_) (fun h => by simp at h))
  refine s_reg ?_
  simp only [go_sem]
  refine c_ret ?_
  simp only [go_sem, endQ, retT, r_im_LoopOuter, List.mem_singleton, forall_eq, RS.op]
  have := hK _ kn.fin
  rw [outI_not (by rw [headsL_not hf]; rfl)] at this
  exact ⟨_, .c _ _ (frzc_same rfl), this⟩
 ·have kn := (Kn.start0 H).call0 hu
  simp only [go_sem, s_im_LoopOuter_i0]
  refine c_as ?_
  refine s_reg ?_
  simp only [go_sem, C.isPtr]
  refine ⟨.inl trivial, ?_⟩
  refine heads_c hg hf fun H2 hu => ?_
  have kn := kn.call0 hu
  simp only [go_sem, s_im_LoopOuter_i2]
  refine Contains_c (ns := (headL rows.length (nxN nx)).map Int.ofNat) (.mk' _ _ _ _) rfl ?_
  simp only [go_sem, s_im_LoopOuter_i1]
  refine c_seq (c_cond rfl (fun hc => ?_) (fun hc => ?_))
  ·have hc' : ((headL rows.length (nxN nx)).map Int.ofNat).contains h = false := by simpa using hc
   refine s_reg ?_
   simp only [go_sem]
   refine c_ret ?_
   simp only [go_sem, endQ, retT, r_im_LoopOuter, List.mem_singleton, forall_eq, RS.op]
   have := hK _ kn.fin
   rw [outI_not (by rw [headsL_fits hf]; exact hc')] at this
   exact ⟨_, .c _ _ (frzc_same rfl), this⟩
  ·have hc' : ((headsL rows.length nx).map Int.ofNat).contains h = true := by rw [headsL_fits hf]; simpa using hc
   obtain ⟨k, rfl, _, hk, _, hin, hl⟩ := headsL_mem hc'
   have hO := outI_yes hc'
   refine c_skip ?_
   simp only [go_sem]
   refine s_reg ?_
   simp only [go_sem]
   refine c_as ?_
   refine s_reg ?_
   simp only [go_sem]
   refine heads_c hg hf fun H3 hu => ?_
   have kn := kn.call0 hu
   simp only [go_sem, s_im_LoopOuter_i4, natsOf_len]
   intro _
   refine c_seq (c_block (c_loop (fun m e1 H1 => ∃ (i : Nat), m = (headL rows.length (nxN nx)).length - i ∧ i ≤ (headL rows.length (nxN nx)).length ∧ Kn H H1 [] [] ∧
    e1 = [(1, .c (.int .i64 k)), (5, .c (.pp (domC p rg fl rows (nxN nx)))), (6, .c (.int .i64 (outF rows.length (nxN nx) k ((headL rows.length (nxN nx)).take i)).1)), (7, .c (.int .i64 (outF rows.length (nxN nx) k ((headL rows.length (nxN nx)).take i)).2)),
     (23, .c (.sl false 1 (natsOf (headL rows.length (nxN nx))))), (24, .c (.int .i64 (headL rows.length (nxN nx)).length)), (25, .c (.int .i64 i))]) (headL rows.length (nxN nx)).length ?_ ?_))
   ·exact ⟨0, by omega, by omega, kn, rfl⟩
   ·rintro m e1 H4 ⟨i, hm, hi, kn, rfl⟩
    refine s_reg ?_
    simp only [go_sem]
    refine c_seq (c_cond rfl ?_ ?_)
    ·intro hc
     have hlt : i < (headL rows.length (nxN nx)).length := by simpa using hc
     obtain ⟨_, h2, h3⟩ := headL_getD hlt
     refine c_skip ?_
     simp only [go_sem]
     have hsu := outF_take_succ (n := rows.length) (g := nxN nx) (h := k) hlt
     generalize hs : outF rows.length (nxN nx) k ((headL rows.length (nxN nx)).take i) = s at *
     generalize ho : (headL rows.length (nxN nx)).getD i 0 = o at *
     refine c_cut (fun e2 H5 => Kn H H5 [] [] ∧ lk 1 e2 = .c (.int .i64 k) ∧ lk 5 e2 = .c (.pp (domC p rg fl rows (nxN nx))) ∧ lk 6 e2 = .c (.int .i64 (outS rows.length (nxN nx) k s o).1) ∧ lk 7 e2 = .c (.int .i64 (outS rows.length (nxN nx) k s o).2) ∧
      lk 23 e2 = .c (.sl false 1 (natsOf (headL rows.length (nxN nx)))) ∧ lk 24 e2 = .c (.int .i64 (headL rows.length (nxN nx)).length) ∧ lk 25 e2 = .c (.int .i64 i)) ?_ ?_
     ·intro Q hnr _ _
      refine c_block ?_
      refine s_reg ?_
      simp only [go_sem, hlt, natsOf_len, natsOf_getD _ _ hlt, ho]
      refine s_reg ?_
      simp only [go_sem]
      refine body_c hg hf h2 h3 fun fl' H5 hu => ?_
      have kn := kn.call0 hu
      simp only [go_sem, s_im_LoopOuter_i5]
      refine s_reg ?_
      simp only [go_sem]
      refine ⟨fun hne => ?_, fun hne => ?_⟩
      ·have hne' : o ≠ k := by simp at hne; omega
       refine Contains_c (ns := (bodyL rows.length (nxN nx) o).map Int.ofNat) (.mk' _ _ _ _) rfl ?_
       rw [nat_contains]
       simp only [go_sem, s_im_LoopOuter_i6, hne, natsOf_len, cond_true]
       intro _
       refine c_cond rfl ?_ ?_
       ·intro hc2
        have hh : k ∈ bodyL rows.length (nxN nx) o ∧ (s.1 < 0 ∨ ((bodyL rows.length (nxN nx) o).length : Int) < s.2) := by
         simpa using hc2
        refine c_reg ?_
        simp only [go_sem, natsOf_len]
        intro _
        refine hnr _ _ ⟨kn, rfl, rfl, ?_, ?_, rfl, rfl, rfl⟩
        ·rw [outS_t hne' hh.1 hh.2]; rfl
        ·rw [outS_t hne' hh.1 hh.2]; rfl
       ·intro hc2
        have hh : ¬ (o ≠ k ∧ k ∈ bodyL rows.length (nxN nx) o ∧ (s.1 < 0 ∨ ((bodyL rows.length (nxN nx) o).length : Int) < s.2)) := by
         rintro ⟨_, h5, h6⟩
         rcases h6 with h6 | h6 <;> simp [h5, h6] at hc2
        refine c_skip ?_
        simp only [go_sem]
        refine hnr _ _ ⟨kn, rfl, rfl, ?_, ?_, rfl, rfl, rfl⟩
        ·rw [outS_f hh]; rfl
        ·rw [outS_f hh]; rfl
      ·have hne' : ¬ o ≠ k := by simp at hne; omega
       simp only [go_sem, s_im_LoopOuter_i6, hne, cond_false]
       refine c_cond rfl (fun h => by simp at h) (fun _ => ?_)
       refine c_skip ?_
       simp only [go_sem]
       have hh : ¬ (o ≠ k ∧ k ∈ bodyL rows.length (nxN nx) o ∧ (s.1 < 0 ∨ ((bodyL rows.length (nxN nx) o).length : Int) < s.2)) := fun h => hne' h.1
       refine hnr _ _ ⟨kn, rfl, rfl, ?_, ?_, rfl, rfl, rfl⟩
       ·rw [outS_f hh]; rfl
       ·rw [outS_f hh]; rfl
     ·rintro e2 H5 ⟨kn, l1, l5, l6, l7, l23, l24, l25⟩
      refine c_reg ?_
      simp only [go_sem, X.next, l1, l5, l6, l7, l23, l24, l25]
      exact ⟨inR64 (by omega) (by omega), (headL rows.length (nxN nx)).length - (i + 1), by omega, i + 1, rfl, by omega, kn, by rw [hsu]; rfl⟩
    ·intro hc
     have hge : (headL rows.length (nxN nx)).length ≤ i := by simpa using hc
     refine c_exit ?_
     simp only [go_sem, X.next]
     refine s_reg ?_
     simp only [go_sem]
     refine c_ret ?_
     simp only [go_sem, endQ, retT, r_im_LoopOuter, List.mem_singleton, forall_eq, RS.op]
     rw [List.take_of_length_le hge, ← hO]
     exact ⟨_, .c _ _ (frzc_same rfl), hK _ kn.fin⟩
set_option maxHeartbeats 1000000 in
theorem sp_LoopOuter_c {p rg : Int} {fl : Bool} {rows : List (List C)} {nx : Nat → List Int} {h : Int} (hg : GF rows nx)
  (hK : ∀ H', Upd H H' [] → K (.c (.int .i64 (outI rows.length nx h))) H') :
  ACall prog fn_sp_LoopOuter [.ag [.int .i64 p, .int .i64 rg, .sl fl 5 rows], .c (.int .i64 h)] H K := by
 have hn := hg.n
 have hhl : (headsL rows.length nx).length ≤ rows.length := by
  rw [headsL]; split
  ·exact headL_len
  ·simp
 refine acall_un ?_
 refine call_sound hmix m_sp_LoopOuter ?_
 refine s_reg ?_
 simp only [go_sem]
 refine s_reg ?_
 simp only [go_sem]
 refine sp_LoopHeads_c hg fun fl1 H1 hu => ?_
 have kn := (Kn.start0 H).call0 hu
 simp only [go_sem, s_sp_LoopOuter_i0]
 refine s_reg ?_
 simp only [go_sem]
 refine s_reg ?_
 simp only [go_sem]
 refine c_as ?_
 refine s_reg ?_
 simp only [go_sem]
 by_cases hcon : ((headsL rows.length nx).map Int.ofNat).contains h = true
 ·obtain ⟨k, rfl, hf, hk, _, hin, hl⟩ := headsL_mem hcon
  have hO := outI_yes hcon
  have hhe := headsL_fits hf
  refine c_seq (c_block (c_loop (fun m e1 H1 => ∃ (i : Nat), m = (headsL rows.length nx).length - i ∧ i ≤ (headsL rows.length nx).length ∧ Kn H H1 [] [] ∧
   e1 = [(1, .c (.int .i64 k)), (2, .c (.pp [.int .i64 p, .int .i64 rg, .sl fl 5 rows])), (5, .c (.sl fl1 1 (natsOf (headsL rows.length nx)))), (6, .c (.int .i64 (outF rows.length (nxN nx) k ((headsL rows.length nx).take i)).1)), (7, .c (.int .i64 (outF rows.length (nxN nx) k ((headsL rows.length nx).take i)).2)), (8, .c (.int .i64 i))]) (headsL rows.length nx).length ?_ ?_))
  ·exact ⟨0, by omega, by omega, kn, rfl⟩
  ·rintro m e1 H4 ⟨i, hm, hi, kn, rfl⟩
   refine c_as ?_
   refine s_reg ?_
   simp only [go_sem, natsOf_len]
   intro _
   refine ⟨fun hc => ?_, fun hc => ?_⟩
   ·have hlt : i < (headsL rows.length nx).length := by simpa using hc
    refine l10At_c (ns := (headsL rows.length nx).map Int.ofNat) (.mk' _ _ _ _) rfl fun r hr => ?_
    have hrn := hr.nonneg
    rw [hcon] at hrn
    simp only [go_sem, s_sp_LoopOuter_i1, hc, hrn, cond_true]
    refine c_seq (c_cond rfl (fun _ => ?_) (fun h => by simp at h))
    refine c_skip ?_
    simp only [go_sem]
    have hlt' : i < (headL rows.length (nxN nx)).length := by rw [← hhe]; exact hlt
    have hgd : (headsL rows.length nx).getD i 0 < rows.length ∧ rchB (nxN nx) (-1) ((headsL rows.length nx).getD i 0) = true := by rw [hhe]; exact (headL_getD hlt').2
    have hoc : ((headsL rows.length nx).map Int.ofNat).contains (((headsL rows.length nx).getD i 0 : Nat) : Int) = true := by
     refine List.contains_iff_mem.2 (List.mem_map.2 ⟨_, ?_, rfl⟩)
     rw [List.getD_eq_getElem?_getD, List.getElem?_eq_getElem hlt]; exact List.getElem_mem hlt
    obtain ⟨k2, he2, _, _, _, _, hlo⟩ := headsL_mem hoc
    have he2 : (headsL rows.length nx).getD i 0 = k2 := by omega
    rw [he2] at hgd
    have hsu := outF_take_succ (n := rows.length) (g := nxN nx) (h := k) hlt
    rw [he2] at hsu hlo
    have hgo := natsOf_getD _ _ hlt
    rw [he2] at hgo
    generalize hs : outF rows.length (nxN nx) k ((headsL rows.length nx).take i) = s at *
    refine c_cut (fun e2 H5 => Kn H H5 [] [] ∧ lk 1 e2 = .c (.int .i64 k) ∧ lk 2 e2 = .c (.pp [.int .i64 p, .int .i64 rg, .sl fl 5 rows]) ∧ lk 5 e2 = .c (.sl fl1 1 (natsOf (headsL rows.length nx))) ∧ lk 6 e2 = .c (.int .i64 (outS rows.length (nxN nx) k s k2).1) ∧ lk 7 e2 = .c (.int .i64 (outS rows.length (nxN nx) k s k2).2) ∧ lk 8 e2 = .c (.int .i64 i)) ?_ ?_
    ·intro Q hnr _ _
     refine c_block ?_
     refine s_dreg ?_
     simp only [go_sem, hlt, natsOf_len, hgo]
     refine sp_LoopBody_c hg fun fl' H5 hu => ?_
     rw [hlo]
     have kn := kn.call0 hu
     simp only [go_sem, s_sp_LoopOuter_i2]
     refine s_reg ?_
     simp only [go_sem, hlt, natsOf_len, hgo]
     refine ⟨fun hne => ?_, fun hne => ?_⟩
     ·have hne' : k2 ≠ k := by simp at hne; omega
      refine l10At_c (ns := (bodyL rows.length (nxN nx) k2).map Int.ofNat) (.mk' _ _ _ _) rfl fun r hr => ?_
      have hrn := hr.nonneg
      rw [nat_contains] at hrn
      simp only [go_sem, s_sp_LoopOuter_i3, hne, hrn, natsOf_len, cond_true]
      intro _
      refine c_cond rfl ?_ ?_
      ·intro hc2
       have hh : k ∈ bodyL rows.length (nxN nx) k2 ∧ (s.1 < 0 ∨ ((bodyL rows.length (nxN nx) k2).length : Int) < s.2) := by
        simpa using hc2
       refine s_reg ?_
       simp only [go_sem, hlt, natsOf_len, hgo]
       refine c_reg ?_
       simp only [go_sem, natsOf_len]
       intro _
       refine hnr _ _ ⟨kn, rfl, rfl, rfl, ?_, ?_, rfl⟩
       ·rw [outS_t hne' hh.1 hh.2]; rfl
       ·rw [outS_t hne' hh.1 hh.2]; rfl
      ·intro hc2
       have hh : ¬ (k2 ≠ k ∧ k ∈ bodyL rows.length (nxN nx) k2 ∧ (s.1 < 0 ∨ ((bodyL rows.length (nxN nx) k2).length : Int) < s.2)) := by
        rintro ⟨_, h5, h6⟩
        rcases h6 with h6 | h6 <;> simp [h5, h6] at hc2
       refine c_skip ?_
       simp only [go_sem]
       refine hnr _ _ ⟨kn, rfl, rfl, rfl, ?_, ?_, rfl⟩
       ·rw [outS_f hh]; rfl
       ·rw [outS_f hh]; rfl
     ·have hne' : ¬ k2 ≠ k := by simp at hne; omega
      simp only [go_sem, s_sp_LoopOuter_i3, hne, cond_false]
      refine c_cond rfl (fun h => by simp at h) (fun _ => ?_)
      refine c_skip ?_
      simp only [go_sem]
      have hh : ¬ (k2 ≠ k ∧ k ∈ bodyL rows.length (nxN nx) k2 ∧ (s.1 < 0 ∨ ((bodyL rows.length (nxN nx) k2).length : Int) < s.2)) := fun h => hne' h.1
      refine hnr _ _ ⟨kn, rfl, rfl, rfl, ?_, ?_, rfl⟩
      ·rw [outS_f hh]; rfl
      ·rw [outS_f hh]; rfl
    ·rintro e2 H5 ⟨kn, l1, l2, l5, l6, l7, l8⟩
     refine c_reg ?_
     simp only [go_sem, X.next, l1, l2, l5, l6, l7, l8]
     exact ⟨inR64 (by omega) (by omega), (headsL rows.length nx).length - (i + 1), by omega, i + 1, rfl, by omega, kn, by rw [hsu]; rfl⟩
   ·have hge : (headsL rows.length nx).length ≤ i := by simpa using hc
    simp only [go_sem, s_sp_LoopOuter_i1, hc, cond_false]
    refine c_seq (c_cond rfl (fun h => by simp at h) (fun _ => ?_))
    refine c_exit ?_
    simp only [go_sem, X.next]
    refine s_reg ?_
    simp only [go_sem]
    refine c_ret ?_
    simp only [go_sem, endQ, retT, r_sp_LoopOuter, List.mem_singleton, forall_eq, RS.op]
    rw [List.take_of_length_le hge, hhe, ← hO]
    exact ⟨_, .c _ _ (frzc_same rfl), hK _ kn.fin⟩
 ·have hcon : ((headsL rows.length nx).map Int.ofNat).contains h = false := by simpa using hcon
  refine c_seq (c_block (c_loop (fun m e1 H1 => H1 = H1 ∧ Kn H H1 [] [] ∧ m = 0 ∧
   e1 = [(1, .c (.int .i64 h)), (2, .c (.pp [.int .i64 p, .int .i64 rg, .sl fl 5 rows])), (5, .c (.sl fl1 1 (natsOf (headsL rows.length nx)))), (6, .c (.int .i64 (-1))), (7, .c (.int .i64 0)), (8, .c (.int .i64 0))]) 0 ?_ ?_))
  ·exact ⟨rfl, kn, rfl, rfl⟩
  ·rintro m e1 H4 ⟨_, kn, hm, rfl⟩
   have fin : ∀ e : Env, lk 6 e = .c (.int .i64 (-1)) → codeT prog s_sp_LoopOuter_10 (endQ r_sp_LoopOuter fun x H' => ∃ x', FrzV H' (un H) x x' ∧ K x' (H'.frz (un H))) e H4 := by
    intro e l6
    refine s_reg ?_
    simp only [go_sem, l6]
    refine c_ret ?_
    simp only [go_sem, endQ, retT, r_sp_LoopOuter, List.mem_singleton, forall_eq, RS.op]
    have := hK _ kn.fin
    rw [outI_not hcon] at this
    exact ⟨_, .c _ _ (frzc_same rfl), this⟩
   refine c_as ?_
   refine s_reg ?_
   simp only [go_sem, natsOf_len]
   intro _
   refine ⟨fun hc => ?_, fun hc => ?_⟩
   ·refine l10At_c (ns := (headsL rows.length nx).map Int.ofNat) (.mk' _ _ _ _) rfl fun r hr => ?_
    have hrn := hr.nonneg
    rw [hcon] at hrn
    simp only [go_sem, s_sp_LoopOuter_i1, hc, hrn, cond_true]
    refine c_seq (c_cond rfl (fun h => by simp at h) (fun _ => ?_))
    refine c_exit ?_
    simp only [go_sem, X.next]
    exact fin _ rfl
   ·simp only [go_sem, s_sp_LoopOuter_i1, hc, cond_false]
    refine c_seq (c_cond rfl (fun h => by simp at h) (fun _ => ?_))
    refine c_exit ?_
    simp only [go_sem, X.next]
    exact fin _ rfl
end Go.AE.Y

namespace Go.AE.Y
open Go.Proofs.Tryz
variable {H H0 : Heap} {K : V → Heap → Prop} {E B Lg : List (Nat × Obj)}
def InN (n : Nat) (ns : List Int) : Prop := ∀ x ∈ ns, 0 ≤ x ∧ x < (n : Int)
theorem OrderIn_c {p rg : Int} {fl : Bool} {rows : List (List C)} {nx : Nat → List Int} (hg : GF rows nx) (hf : fitsB rows.length nx = true)
  (hK : ∀ fl' (ns : List Int) H', Upd H H' [] → InN rows.length ns → ns.length ≤ rows.length → K (.c (.sl fl' 1 (intsOf ns))) H') :
  ACall prog fn_im_OrderIn [.ag [.int .i64 p, .int .i64 rg, .sl fl 5 rows]] H K := by
 have hn := hg.n
 have hn0 := fitsB_pos hf
 refine acall_un ?_
 refine call_sound hmix m_im_OrderIn ?_
 refine s_reg ?_
 simp only [go_sem]
 refine c_as ?_
 refine s_reg ?_
 simp only [go_sem]
 refine graphOk_c (hg.grd _ _) ?_
 simp only [go_sem, s_im_OrderIn_i0, hf]
 refine c_seq (c_cond rfl (fun h => by simp at h) (fun _ => ?_))
 refine c_skip ?_
 simp only [go_sem]
 refine s_reg ?_
 simp only [go_sem]
 refine visits_own_c (hg.grd _ _) hf (by omega) fun S o t Lg H1 hgr kn hd => ?_
 have how := hgr.isOw
 simp only [go_sem, s_im_OrderIn_i2]
 have hgl : ∀ x, x < (List.replicate rows.length false).length → ∀ y ∈ nxN nx x, y < (List.replicate rows.length false).length := by
  rw [List.length_replicate]; exact fun x hx y hy => nxN_lt hf hx hy
 have hx0 : ∀ x ∈ [0], x < (List.replicate rows.length false).length := by rw [List.length_replicate]; simpa using hn0
 have hcount := hd.count hgl hx0
 have hc0 : cnt (List.replicate rows.length false) = 0 := by simp [cnt, List.count_replicate]
 have hcl := cnt_le S
 have hSl := hd.len
 rw [List.length_replicate] at hSl
 have hol : o.length ≤ rows.length := by simp only [List.length_nil] at hcount; omega
 have hoi : InN rows.length (o.map Int.ofNat) := by
  intro x hx
  obtain ⟨y, hy, rfl⟩ := List.mem_map.1 hx
  obtain ⟨t2, e, a1, _⟩ := hd.adds hgl hx0
  have : S.getD y false = true := (a1 y).2 (.inr (by simpa [e] using hy))
  have hlt : y < S.length := by
   refine Nat.lt_of_not_le fun hle => ?_
   rw [List.getD_eq_getElem?_getD, List.getElem?_eq_none hle] at this
   simp at this
  exact ⟨by simp, by simp; omega⟩
 have hgr : Gr Lg 1 (intsOf (o.map Int.ofNat)) t := hgr
 refine s_reg ?_
 simp only [go_sem, how]
 refine Reverse_c kn hgr (by rw [List.length_map]; omega) fun Lg2 ns H2 hgr kn hp => ?_
 refine s_reg ?_
 simp only [go_sem, how]
 refine c_ret ?_
 simp only [go_sem, endQ, retT, r_im_OrderIn, List.mem_singleton, forall_eq, RS.op, how]
 exact ⟨_, .c _ _ (hgr.frz kn (intsOf_noOw _)), hK _ ns _ kn.fin (fun x hx => hoi x (hp.mem_iff.1 hx)) (by rw [hp.length_eq, List.length_map]; exact hol)⟩
def MInt (es : List (C × V)) : Prop := ∀ e ∈ es, ∃ k n : Int, e = (.int .i64 k, .c (.int .i64 n))
theorem MInt.ok {es : List (C × V)} (h : MInt es) (k : Int) : okKey 0 (.int .i64 k) es = True := by
 refine eq_true ?_
 simp only [okKey]
 intro e he
 obtain ⟨k, n, rfl⟩ := h e he
 exact ⟨k, rfl⟩
theorem MInt.find {es : List (C × V)} (h : MInt es) (k : Int) : ∃ n : Int, (findE (.int .i64 k) es).getD (.c (.int .i64 0)) = .c (.int .i64 n) := by
 induction es with
 | nil => exact ⟨0, rfl⟩
 | cons e es ih =>
  obtain ⟨a, n, rfl⟩ := h e List.mem_cons_self
  simp only [findE]
  split
  ·exact ⟨n, rfl⟩
  ·exact ih fun x hx => h x (List.mem_cons_of_mem _ hx)
theorem MInt.upd {es : List (C × V)} (h : MInt es) (k n : Int) : MInt (updE (.int .i64 k) (.c (.int .i64 n)) es) ∧ (updE (.int .i64 k) (.c (.int .i64 n)) es).length ≤ es.length + 1 := by
 induction es with
 | nil => exact ⟨fun e he => ⟨k, n, by simpa [updE] using he⟩, by simp [updE]⟩
 | cons e es ih =>
  obtain ⟨i1, i2⟩ := ih fun x hx => h x (List.mem_cons_of_mem _ hx)
  simp only [updE]
  split
  ·refine ⟨fun x hx => ?_, by simp⟩
   rcases List.mem_cons.1 hx with rfl | hx
   ·exact ⟨k, n, rfl⟩
   ·exact h x (List.mem_cons_of_mem _ hx)
  ·refine ⟨fun x hx => ?_, by simp only [List.length_cons]; omega⟩
   rcases List.mem_cons.1 hx with rfl | hx
   ·exact h x List.mem_cons_self
   ·exact i1 x hx
def edgC (x : Int × Int) : C := .sl true 1 [[.int .i64 x.1], [.int .i64 x.2]]
def edgR (l : List (Int × Int)) : List (List C) := l.map fun x => [edgC x]
theorem edgR_len (l : List (Int × Int)) : (edgR l).length = l.length := by simp [edgR]
theorem edgR_noOw (l : List (Int × Int)) : ∀ r ∈ edgR l, noOw r = true := by intro r hr; obtain ⟨x, _, rfl⟩ := List.mem_map.1 hr; rfl
theorem edgR_getD (l : List (Int × Int)) (i : Nat) (h : i < l.length) : (edgR l).getD i [] = [edgC (l.getD i (0, 0))] := by simp [edgR, List.getD_eq_getElem?_getD, h]
theorem edgR_app (a b : List (Int × Int)) : edgR (a ++ b) = edgR a ++ edgR b := by simp [edgR]
def InE (n : Nat) (l : List (Int × Int)) : Prop := ∀ x ∈ l, (0 ≤ x.1 ∧ x.1 < (n : Int)) ∧ 0 ≤ x.2 ∧ x.2 < (n : Int)
theorem getD_memI {ns : List Int} {i : Nat} (h : i < ns.length) : ns.getD i 0 ∈ ns := by
 rw [List.getD_eq_getElem?_getD, List.getElem?_eq_getElem h]; exact List.getElem_mem h
set_option maxHeartbeats 1000000 in
theorem BackEdges_c {p rg : Int} {fl : Bool} {rows : List (List C)} {nx : Nat → List Int} (hg : GF rows nx) (hf : fitsB rows.length nx = true)
  (hK : ∀ fl' (l : List (Int × Int)) H', Upd H H' [] → InE rows.length l → l.length ≤ 10000000 → K (.c (.sl fl' 1 (edgR l))) H') :
  ACall prog fn_im_BackEdges [.ag [.int .i64 p, .int .i64 rg, .sl fl 5 rows]] H K := by
 have hn := hg.n
 refine acall_un ?_
 refine call_sound hmix m_im_BackEdges ?_
 refine s_reg ?_
 simp only [go_sem]
 refine s_reg ?_
 simp only [go_sem]
 refine OrderIn_c hg hf fun fl1 ns H1 hu hin hnl => ?_
 have kn := (Kn.start0 H).call0 hu
 simp only [go_sem, s_im_BackEdges_i0]
 refine s_reg ?_
 simp only [go_sem]
 intro M hM0 H2 h2
 have kn := kn.al hM0 h2
 simp only [go_sem, s_im_BackEdges_i1]
 refine c_as ?_
 refine s_reg ?_
 simp only [go_sem, intsOf_len]
 intro _
 refine c_seq (c_block (c_loop (fun m e1 H1 => ∃ (i : Nat) (es : List (C × V)) (ver : Nat), m = ns.length - i ∧ i ≤ ns.length ∧ MInt es ∧ es.length ≤ i ∧ Kn H H1 [] ([(M, .map ver es)] ++ []) ∧
  e1 = [(1, .c (.pp [.int .i64 p, .int .i64 rg, .sl fl 5 rows])), (3, .c (.sl fl1 1 (intsOf ns))), (4, .c (.mp M)), (15, .c (.sl fl1 1 (intsOf ns))), (16, .c (.int .i64 ns.length)), (17, .c (.int .i64 i))]) ns.length ?_ ?_))
 ·exact ⟨0, [], 0, by omega, by omega, fun e he => by simp at he, by simp, kn, rfl⟩
 ·rintro m e1 H3 ⟨i, es, ver, hm, hi, hes, hel, kn, rfl⟩
  have hM := kn.l 0 rfl
  refine s_reg ?_
  simp only [go_sem]
  refine c_seq (c_cond rfl ?_ ?_)
  ·intro hc
   have hlt : i < ns.length := by simpa using hc
   refine c_skip ?_
   simp only [go_sem]
   refine c_seq (c_block ?_)
   refine s_reg ?_
   simp only [go_sem, hlt, intsOf_len, intsOf_getD _ _ hlt]
   obtain ⟨u1, u2⟩ := hes.upd (ns.getD i 0) i
   refine c_reg ?_
   simp only [go_sem, hM, hes.ok]
   refine ⟨by simp only [LIM]; omega, fun H4 h4 => ?_⟩
   have kn := kn.stL 0 rfl h4
   refine c_reg ?_
   simp only [go_sem, X.next]
   exact ⟨inR64 (by omega) (by omega), ns.length - (i + 1), by omega, i + 1, _, _, rfl, by omega, u1, by omega, kn, rfl⟩
  ·intro hc
   refine c_exit ?_
   simp only [go_sem, X.next]
   refine s_reg ?_
   simp only [go_sem]
   refine c_as ?_
   refine s_reg ?_
   simp only [go_sem]
   refine once_c (by omega) fun ns1 H4 hu hs1 hm1 hl1 => ?_
   have kn := kn.call0 hu
   have hin1 : InN rows.length ns1 := fun x hx => hin x ((hm1 x).1 hx)
   simp only [go_sem, s_im_BackEdges_i6, intsOf_len]
   intro _
   refine c_seq (c_block (c_loop (fun m e1 H1 => ∃ (i : Nat) (l : List (Int × Int)) (oc : C) (Lg : List (Nat × Obj)), m = ns1.length - i ∧ i ≤ ns1.length ∧ InE rows.length l ∧ l.length ≤ 1000 * i ∧ Gr Lg 1 (edgR l) oc ∧ Kn H H1 [] ([(M, .map ver es)] ++ Lg) ∧
    e1 = [(1, .c (.pp [.int .i64 p, .int .i64 rg, .sl fl 5 rows])), (4, .c (.mp M)), (7, .c oc), (27, .c (.sl false 1 (intsOf ns1))), (28, .c (.int .i64 ns1.length)), (29, .c (.int .i64 i))]) ns1.length ?_ ?_))
   ·exact ⟨0, [], _, [], by omega, by omega, fun e he => by simp at he, by simp, .nil 1, kn, rfl⟩
   ·rintro m e1 H5 ⟨i, l, oc, Lg, hm, hi, hl, hll, hgr, kn, rfl⟩
    have hoc := hgr.isOw
    refine s_reg ?_
    simp only [go_sem, hoc]
    refine c_seq (c_cond rfl ?_ ?_)
    ·intro hc
     have hlt : i < ns1.length := by simpa using hc
     obtain ⟨b0, b1⟩ := hin1 _ (getD_memI hlt)
     have hgb := intsOf_getD _ _ hlt
     obtain ⟨b, hb⟩ := Int.eq_ofNat_of_zero_le b0
     rw [hb] at hgb b1
     have hbl : b < rows.length := by omega
     obtain ⟨a1, a2, a3, a4, fl5, hrow⟩ := hg.x b hbl
     have hbm := hg.m b hbl
     refine c_skip ?_
     simp only [go_sem]
     refine c_cut (fun e2 H6 => ∃ (l : List (Int × Int)) (oc : C) (Lg : List (Nat × Obj)), InE rows.length l ∧ l.length ≤ 1000 * (i + 1) ∧ Gr Lg 1 (edgR l) oc ∧ Kn H H6 [] ([(M, .map ver es)] ++ Lg) ∧
      lk 1 e2 = .c (.pp [.int .i64 p, .int .i64 rg, .sl fl 5 rows]) ∧ lk 4 e2 = .c (.mp M) ∧ lk 7 e2 = .c oc ∧ lk 27 e2 = .c (.sl false 1 (intsOf ns1)) ∧ lk 28 e2 = .c (.int .i64 ns1.length) ∧ lk 29 e2 = .c (.int .i64 i)) ?_ ?_
     ·intro Q hnr _ _
      refine c_block ?_
      refine s_reg ?_
      simp only [go_sem, hoc, hlt, intsOf_len, hgb]
      refine s_reg ?_
      simp only [go_sem, hoc, hbl, hrow]
      refine once_c (ns := nx b) (by omega) fun ns2 H6 hu hs2 hm2 hl2 => ?_
      have kn := kn.call0 hu
      have hin2 : InN rows.length ns2 := fun x hx => by
       have := fitsB_mem hf hbl ((hm2 x).1 hx)
       omega
      simp only [go_sem, s_im_BackEdges_i7, hoc, intsOf_len]
      intro _
      refine c_block (c_loop (fun m e1 H1 => ∃ (j : Nat) (l : List (Int × Int)) (oc : C) (Lg : List (Nat × Obj)), m = ns2.length - j ∧ j ≤ ns2.length ∧ InE rows.length l ∧ l.length ≤ 1000 * i + j ∧ Gr Lg 1 (edgR l) oc ∧ Kn H H1 [] ([(M, .map ver es)] ++ Lg) ∧
       e1 = [(1, .c (.pp [.int .i64 p, .int .i64 rg, .sl fl 5 rows])), (4, .c (.mp M)), (7, .c oc), (9, .c (.int .i64 b)), (27, .c (.sl false 1 (intsOf ns1))), (28, .c (.int .i64 ns1.length)), (29, .c (.int .i64 i)), (39, .c (.sl false 1 (intsOf ns2))), (40, .c (.int .i64 ns2.length)), (41, .c (.int .i64 j))]) ns2.length ?_ ?_)
      ·exact ⟨0, l, oc, Lg, by omega, by omega, hl, by omega, hgr, kn, rfl⟩
      ·rintro m e1 H7 ⟨j, l, oc, Lg, hm, hj, hl, hll, hgr, kn, rfl⟩
       have hM := kn.l 0 rfl
       have hoc := hgr.isOw
       refine s_reg ?_
       simp only [go_sem, hoc]
       refine c_seq (c_cond rfl ?_ ?_)
       ·intro hc
        have hltj : j < ns2.length := by simpa using hc
        obtain ⟨c0, c1⟩ := hin2 _ (getD_memI hltj)
        have hgc := intsOf_getD _ _ hltj
        generalize ns2.getD j 0 = y at *
        obtain ⟨n1, f1⟩ := hes.find y
        obtain ⟨n2, f2⟩ := hes.find b
        refine c_skip ?_
        simp only [go_sem]
        refine c_cut (fun e2 H8 => ∃ (l : List (Int × Int)) (oc : C) (Lg : List (Nat × Obj)), InE rows.length l ∧ l.length ≤ 1000 * i + (j + 1) ∧ Gr Lg 1 (edgR l) oc ∧ Kn H H8 [] ([(M, .map ver es)] ++ Lg) ∧
         lk 1 e2 = .c (.pp [.int .i64 p, .int .i64 rg, .sl fl 5 rows]) ∧ lk 4 e2 = .c (.mp M) ∧ lk 7 e2 = .c oc ∧ lk 9 e2 = .c (.int .i64 b) ∧ lk 27 e2 = .c (.sl false 1 (intsOf ns1)) ∧ lk 28 e2 = .c (.int .i64 ns1.length) ∧ lk 29 e2 = .c (.int .i64 i) ∧
         lk 39 e2 = .c (.sl false 1 (intsOf ns2)) ∧ lk 40 e2 = .c (.int .i64 ns2.length) ∧ lk 41 e2 = .c (.int .i64 j)) ?_ ?_
        ·intro Q hnr _ _
         refine c_block ?_
         refine s_reg ?_
         simp only [go_sem, hoc, hltj, intsOf_len, hgc]
         refine s_reg ?_
         simp only [go_sem, hoc, hM, okMap, entriesOf, hes.ok, f1, f2]
         refine c_cond rfl ?_ ?_
         ·intro _
          refine c_reg ?_
          simp only [go_sem, hoc]
          refine kn.growR (new := edgR [((b : Int), y)]) hgr (.mk' _ _ _ _) (edgR_noOw _) (by rw [edgR_len, edgR_len]; simp only [LIM, List.length_cons, List.length_nil]; omega) fun t Lg2 H8 hgr ht kn => ?_
          simp only [go_sem, s_im_BackEdges_i8, ht]
          rw [← edgR_app] at hgr
          refine hnr _ _ ⟨l ++ [((b : Int), y)], t, Lg2, ?_, by simp; omega, hgr, kn, rfl, rfl, rfl, rfl, rfl, rfl, rfl, rfl, rfl, rfl⟩
          intro x hx
          rcases List.mem_append.1 hx with hx | hx
          ·exact hl x hx
          ·simp only [List.mem_singleton] at hx; subst hx
           exact ⟨⟨by omega, by omega⟩, c0, c1⟩
         ·intro _
          refine c_skip ?_
          simp only [go_sem]
          exact hnr _ _ ⟨l, oc, Lg, hl, by omega, hgr, kn, rfl, rfl, rfl, rfl, rfl, rfl, rfl, rfl, rfl, rfl⟩
        ·rintro e2 H8 ⟨l, oc, Lg, hl, hll, hgr, kn, l1, l4, l7, l9, l27, l28, l29, l39, l40, l41⟩
         have hoc := hgr.isOw
         refine c_reg ?_
         simp only [go_sem, X.next, l1, l4, l7, l9, l27, l28, l29, l39, l40, l41, hoc]
         exact ⟨inR64 (by omega) (by omega), ns2.length - (j + 1), by omega, j + 1, l, oc, Lg, rfl, by omega, hl, hll, hgr, kn, rfl⟩
       ·intro hc
        refine c_exit ?_
        simp only [go_sem, X.next]
        exact hnr _ _ ⟨l, oc, Lg, hl, by omega, hgr, kn, rfl, rfl, rfl, rfl, rfl, rfl⟩
     ·rintro e2 H6 ⟨l, oc, Lg, hl, hll, hgr, kn, l1, l4, l7, l27, l28, l29⟩
      have hoc := hgr.isOw
      refine c_reg ?_
      simp only [go_sem, X.next, l1, l4, l7, l27, l28, l29, hoc]
      exact ⟨inR64 (by omega) (by omega), ns1.length - (i + 1), by omega, i + 1, l, oc, Lg, rfl, by omega, hl, hll, hgr, kn, rfl⟩
    ·intro hc
     refine c_exit ?_
     simp only [go_sem, X.next]
     refine s_reg ?_
     simp only [go_sem, hoc]
     refine c_ret ?_
     simp only [go_sem, endQ, retT, r_im_BackEdges, List.mem_singleton, forall_eq, RS.op, hoc]
     exact ⟨_, .c _ _ (hgr.frz kn (edgR_noOw _)), hK _ l _ kn.fin hl (by omega)⟩
theorem IndexFuncL_c {fl : Bool} {l : List (Int × Int)} {f : Nat} {caps : List C}
  (hf : ∀ (x : Int × Int) (K' : V → Heap → Prop), x ∈ l → (∀ b, K' (.c (.bool b)) H) → ACall prog f ([.c (edgC x)] ++ caps.map .c) H K')
  (hK : ∀ r : Int, K (.c (.int .i64 r)) H) :
  ACall prog fn_sl_IndexFunc_Lint [.c (.sl fl 1 (edgR l)), .c (.fn f caps)] H K := by
 refine call_sound hmix m_sl_IndexFunc_Lint ?_
 refine s_reg ?_
 simp only [go_sem]
 refine c_as ?_
 refine s_reg ?_
 simp only [go_sem, edgR_len]
 intro hl
 simp only [LIM] at hl
 refine c_seq (c_block (c_loop (fun m e1 H1 => ∃ (i : Nat), m = l.length - i ∧ i ≤ l.length ∧ H1 = H ∧ e1 = [(0, .c (.sl fl 1 (edgR l))), (1, .c (.fn f caps)), (7, .c (.int .i64 l.length)), (8, .c (.int .i64 i))]) l.length ?_ ?_))
 ·exact ⟨0, by omega, by omega, rfl, rfl⟩
 ·rintro m e1 H1 ⟨i, hm, hi, rfl, rfl⟩
  refine s_reg ?_
  simp only [go_sem]
  refine c_seq (c_cond rfl ?_ ?_)
  ·intro hc
   have hlt : i < l.length := by simpa using hc
   have hgd : l.getD i (0, 0) ∈ l := by rw [List.getD_eq_getElem?_getD, List.getElem?_eq_getElem hlt]; exact List.getElem_mem hlt
   refine c_skip ?_
   simp only [go_sem]
   refine c_seq (c_block ?_)
   refine s_reg ?_
   simp only [go_sem]
   refine s_reg ?_
   have hew : (edgC (l.getD i (0, 0))).isOw = false := rfl
   simp only [go_sem, hlt, edgR_len, edgR_getD _ _ hlt, hew]
   refine hf _ _ hgd fun b => ?_
   refine c_cond rfl ?_ ?_
   ·intro hc2
    refine s_reg ?_
    simp only [go_sem]
    refine c_ret ?_
    simp only [go_sem, X.next, endQ, retT, r_sl_IndexFunc_Lint, List.mem_singleton, forall_eq, RS.op]
    exact hK _
   ·intro hc2
    refine c_skip ?_
    simp only [go_sem]
    refine c_reg ?_
    simp only [go_sem, X.next]
    exact ⟨inR64 (by omega) (by omega), l.length - (i + 1), by omega, i + 1, rfl, by omega, rfl⟩
  ·intro hc
   refine c_exit ?_
   simp only [go_sem, X.next]
   refine s_reg ?_
   simp only [go_sem]
   refine c_ret ?_
   simp only [go_sem, endQ, retT, r_sl_IndexFunc_Lint, List.mem_singleton, forall_eq, RS.op]
   exact hK _
theorem ContainsFuncL_c {fl : Bool} {l : List (Int × Int)} {f : Nat} {caps : List C}
  (hf : ∀ (x : Int × Int) (K' : V → Heap → Prop), x ∈ l → (∀ b, K' (.c (.bool b)) H) → ACall prog f ([.c (edgC x)] ++ caps.map .c) H K')
  (hK : ∀ b, K (.c (.bool b)) H) :
  ACall prog fn_sl_ContainsFunc_Lint [.c (.sl fl 1 (edgR l)), .c (.fn f caps)] H K := by
 refine call_sound hmix m_sl_ContainsFunc_Lint ?_
 refine s_reg ?_
 simp only [go_sem]
 refine s_reg ?_
 simp only [go_sem]
 refine IndexFuncL_c hf fun r => ?_
 simp only [go_sem, s_sl_ContainsFunc_Lint_i0]
 refine c_ret ?_
 simp only [go_sem, endQ, retT, r_sl_ContainsFunc_Lint, List.mem_singleton, forall_eq, RS.op]
 exact hK _
theorem IsTame_c {p rg : Int} {fl : Bool} {rows : List (List C)} {nx : Nat → List Int} (hg : GF rows nx) (hf : fitsB rows.length nx = true)
  (hK : ∀ b H', Upd H H' [] → K (.c (.bool b)) H') :
  ACall prog fn_im_IsTame [.ag [.int .i64 p, .int .i64 rg, .sl fl 5 rows]] H K := by
 refine acall_un ?_
 refine call_sound hmix m_im_IsTame ?_
 refine s_reg ?_
 simp only [go_sem]
 refine s_reg ?_
 simp only [go_sem]
 refine domsOf_c hg (fun hf' => by rw [hf] at hf'; simp at hf') (fun _ H1 hu => ?_)
 have kn := (Kn.start0 H).call0 hu
 simp only [go_sem, s_im_IsTame_i1]
 intro x3 hx3 H2 h2
 have kn := kn.al hx3 h2
 have hx3 := kn.l 0 rfl
 simp only [go_sem, s_im_IsTame_i0, hx3]
 intro H3 h3
 have kn : Kn H H3 [] [(x3, .st [.pp (domC p rg fl rows (nxN nx))])] := kn.stL 0 rfl h3
 have hx3 := kn.l 0 rfl
 refine s_reg ?_
 simp only [go_sem, hx3, C.isPtr]
 refine ⟨.inl trivial, ?_⟩
 refine BackEdges_c hg hf fun fl1 l H4 hu hin hll => ?_
 have kn := kn.call0 hu
 have hx3 := kn.l 0 rfl
 simp only [go_sem, s_im_IsTame_i3]
 refine ContainsFuncL_c (fun x K' hx hK' => ?_) fun b => ?_
 ·obtain ⟨⟨a0, a1⟩, b0, b1⟩ := hin x hx
  obtain ⟨x1, x2⟩ := x
  obtain ⟨a, rfl⟩ := Int.eq_ofNat_of_zero_le a0
  obtain ⟨b, rfl⟩ := Int.eq_ofNat_of_zero_le b0
  refine call_sound hmix m_im_IsTame_c1 ?_
  refine s_reg ?_
  simp only [go_sem, edgC, List.cons_append, List.nil_append, List.map_cons, List.map_nil]
  have g0 : ([[C.int .i64 (a : Int)], [C.int .i64 (b : Int)]] : List (List C)).getD 0 [] = [C.int .i64 a] := rfl
  have g1 : ([[C.int .i64 (a : Int)], [C.int .i64 (b : Int)]] : List (List C)).getD 1 [] = [C.int .i64 b] := rfl
  refine s_dreg ?_
  simp only [go_sem, hx3, g0, g1]
  refine ⟨by omega, by omega, ?_⟩
  refine dominates_c (rows := rows) (a := b) (b := a) (by omega) (by omega) ?_
  simp only [go_sem, s_im_IsTame_c1_i0]
  refine c_ret ?_
  simp only [go_sem, endQ, retT, r_im_IsTame_c1, List.mem_singleton, forall_eq, RS.op]
  exact hK' _
 ·simp only [go_sem, s_im_IsTame_i2]
  refine c_ret ?_
  simp only [go_sem, endQ, retT, r_im_IsTame, List.mem_singleton, forall_eq, RS.op]
  exact ⟨_, .c _ _ (frzc_same rfl), hK _ _ kn.fin⟩
end Go.AE.Y

namespace Go.AE.Y
open Go.Proofs.Tryz
variable {H H0 : Heap} {K : V → Heap → Prop} {E B Lg : List (Nat × Obj)}
theorem DrawLoopOuter_c {fl : Bool} {bs : List UInt8} (hK : ∀ (q : CodeD) (h : Int) H', Upd H H' [] → q.gd → -1 ≤ h → h ≤ 10000 → K (.tup [.ag q.cells, .c (.int .i64 h)]) H') :
  ACall prog fn_sp_DrawLoopOuter [.c (.sl fl 1 (bytesOf bs))] H K := by
 refine acall_un ?_
 refine call_sound hmix m_sp_DrawLoopOuter ?_
 refine s_reg ?_
 simp only [go_sem]
 intro x2 hx2 H1 h1
 have kn := (Kn.start0 H).al hx2 h1
 simp only [go_sem, s_sp_DrawLoopOuter_i0]
 refine s_reg ?_
 simp only [go_sem]
 refine l17Draw_c fun q h H2 hu hq h1 h2 => ?_
 have kn := kn.call0 hu
 have hx2 := kn.l 0 rfl
 simp only [go_sem, s_sp_DrawLoopOuter_i2, List.getD_cons_zero, List.getD_cons_succ, CodeD.cells, hx2]
 intro H3 h3
 have kn := kn.stL 0 rfl h3
 have hx2 := kn.l 0 rfl
 simp only [go_sem, s_sp_DrawLoopOuter_i1]
 refine c_ret ?_
 simp only [go_sem, endQ, retT, r_sp_DrawLoopOuter, List.forall_mem_cons, List.not_mem_nil, RS.op, hx2]
 exact ⟨fun _ => trivial, _, frz_tup2 q.frzSame (.c _ _ (frzc_same rfl)), hK q h _ kn.fin hq h1 h2⟩
theorem outI_is {n : Nat} {nx : Nat → List Int} {h : Int} : outI n nx h = -1 ∨ ∃ k o : Nat, h = k ∧ outI n nx h = o ∧ fitsB n nx = true ∧ k < n ∧ o < n ∧ ((headsL n nx).map Int.ofNat).contains h = true ∧ ((headsL n nx).map Int.ofNat).contains (o : Int) = true ∧
  k ∈ headL n (nxN nx) ∧ o ∈ headL n (nxN nx) ∧ rchB (nxN nx) (-1) k = true ∧ rchB (nxN nx) (-1) o = true ∧ o ≠ k ∧ k ∈ bodyL n (nxN nx) o ∧ loopL n nx h = bodyL n (nxN nx) k ∧ loopL n nx o = bodyL n (nxN nx) o := by
 cases hh : ((headsL n nx).map Int.ofNat).contains h with
 | false => exact .inl (outI_not hh)
 | true =>
  obtain ⟨k, rfl, hf, hk, hkh, hki, hkl⟩ := headsL_mem hh
  rw [outI_yes hh]
  rcases outF_is (n := n) (g := nxN nx) (h := k) (headL n (nxN nx)) with h1 | ⟨o, ho, h1, h2, h3⟩
  ·exact .inl h1
  ·refine .inr ?_
   have hoc : ((headsL n nx).map Int.ofNat).contains (o : Int) = true := by
    rw [headsL_fits hf]
    exact List.contains_iff_mem.2 (List.mem_map.2 ⟨o, ho, rfl⟩)
   obtain ⟨o2, he, _, hol, hoh, hoi, hl⟩ := headsL_mem hoc
   have he : o2 = o := by omega
   subst he
   exact ⟨k, o2, rfl, h1, hf, hk, hol, rfl, hoc, hkh, hoh, hki, hoi, h2, h3, hkl, hl⟩
set_option maxHeartbeats 2000000 in
theorem FnLoopOuter_c {bs : List UInt8} (hK : ∀ H', K (.c (.bool true)) H') : ACall prog fn_la_FnLoopOuter [.c (.sl false 1 (bytesOf bs))] H K := by
 refine call_sound hmix m_la_FnLoopOuter ?_
 have retT' : ∀ (e : Env) (H' : Heap), lk 2 e = .c (.bool true) → endQ r_la_FnLoopOuter K .ret e H' := by
  intro e H' h2
  simp only [go_sem, endQ, retT, r_la_FnLoopOuter, List.mem_singleton, forall_eq, RS.op, h2]
  exact hK H'
 refine s_reg ?_
 simp only [go_sem]
 refine c_as ?_
 refine s_reg ?_
 simp only [go_sem, bytesOf_len]
 intro _
 refine c_seq (c_cond rfl (fun hc => ?_) (fun hc => ?_))
 ·refine s_reg ?_
  simp only [go_sem]
  refine c_ret ?_
  exact retT' _ _ rfl
 refine c_skip ?_
 simp only [go_sem]
 refine s_reg ?_
 simp only [go_sem]
 refine DrawLoopOuter_c fun q h H1 hu hq hh1 hh2 => ?_
 have kn := (Kn.start0 H).call0 hu
 have hg := gf_code hq
 simp only [go_sem, s_la_FnLoopOuter_i3, List.getD_cons_zero, List.getD_cons_succ]
 intro x3 hx3 H2 h2
 have kn := kn.al hx3 h2
 have hx3 := kn.l 0 rfl
 simp only [go_sem, s_la_FnLoopOuter_i2, CodeD.cells, hx3]
 intro H3 h3
 have kn : Kn H H3 [] [(x3, .st q.cells)] := kn.stL 0 rfl h3
 have hx3 := kn.l 0 rfl
 simp only [go_sem, s_la_FnLoopOuter_i1]
 refine s_reg ?_
 simp only [go_sem, hx3, CodeD.cells]
 refine LoopOuter_c hg fun H4 hu => ?_
 have kn := kn.call0 hu
 have hx3 := kn.l 0 rfl
 simp only [go_sem, s_la_FnLoopOuter_i4]
 refine c_as ?_
 refine s_reg ?_
 simp only [go_sem, hx3, CodeD.cells]
 refine sp_LoopOuter_c hg fun H5 hu => ?_
 have kn := kn.call0 hu
 have hx3 := kn.l 0 rfl
 have away : ∀ (e : Env) (H6 : Heap) (o : Int), Kn H H6 [] [(x3, .st q.cells)] → outI (blksOf q.blocks).length (gnx q) h = o → -1 ≤ o → lk 3 e = .c (.ptr x3 0) → lk 4 e = .c (.int .i64 h) → lk 5 e = .c (.int .i64 o) → lk 32 e = .c (.bool true) →
   codeT prog (s_la_FnLoopOuter_8.seq s_la_FnLoopOuter_21) (endQ r_la_FnLoopOuter K) e H6 := by
  intro e H6 o kn ho hlo l3 l4 l5 l32
  have hx3 := kn.l 0 rfl
  refine c_seq (c_cond l32 (fun _ => ?_) (fun h => by simp at h))
  refine s_reg ?_
  simp only [go_sem, l3, l4, l5, hx3, CodeD.cells]
  refine sp_LoopOuter_c hg fun H7 hu => ?_
  rw [ho]
  simp only [go_sem, s_la_FnLoopOuter_i7, l3, l4, l5, hlo, decide_true, cond_true]
  refine c_ret ?_
  exact retT' _ _ rfl
 simp only [go_sem, s_la_FnLoopOuter_i6, decide_true, decide_false, Bool.not_true]
 rcases outI_is (n := (blksOf q.blocks).length) (nx := gnx q) (h := h) with hO | ⟨k, o, rfl, hO, hf, hk, hol, hkc, hoc, hkh, hoh, hki, hoi, hne, hko, hlk, hlo⟩
 ·rw [hO]
  have hn1 : decide ((-1 : Int) < 0) = true := rfl
  simp only [go_sem, s_la_FnLoopOuter_i5, hn1, cond_false, cond_true, Bool.not_true, Bool.not_false, hx3, CodeD.cells]
  exact away _ _ _ kn hO (by omega) rfl rfl rfl rfl
 rw [hO]
 have hneg : decide ((o : Int) < 0) = false := by simp
 simp only [go_sem, hneg, cond_false, Bool.not_false, hx3, CodeD.cells]
 refine IsTame_c hg hf fun tm H6 hu => ?_
 have kn := kn.call0 hu
 have hx3 := kn.l 0 rfl
 simp only [go_sem, s_la_FnLoopOuter_i5, hneg, cond_false, Bool.not_false]
 cases tm with
 | false => exact away _ _ _ kn hO (by omega) rfl rfl rfl rfl
 | true =>
 refine c_seq (c_cond rfl (fun h => by simp at h) (fun _ => ?_))
 refine c_skip ?_
 simp only [go_sem]
 have hBk : ∀ b ∈ bodyL (blksOf q.blocks).length (nxN (gnx q)) k, b ∈ bodyL (blksOf q.blocks).length (nxN (gnx q)) o := fun b hb =>
  (bodyL_mem hol).2 (Bdy.within hki hoi hne ((bodyL_mem hol).1 hko) ((bodyL_mem hk).1 hb)).1
 have hdm : domB (nxN (gnx q)) o k = true := Bdy.ruled hoi ((bodyL_mem hol).1 hko)
 have hdp := depN_lt hkh hoh hne hko
 refine c_as ?_
 refine s_reg ?_
 simp only [go_sem, hx3, CodeD.cells]
 refine LoopBody_c hg fun fl1 H7 hu => ?_
 have kn := kn.call0 hu
 rw [hlk]
 simp only [go_sem, s_la_FnLoopOuter_i9, natsOf_len]
 intro hlL
 simp only [LIM] at hlL
 generalize hLk : bodyL (blksOf q.blocks).length (nxN (gnx q)) k = L at *
 refine c_seq (c_block (c_loop (fun m e1 H1 => ∃ (i : Nat), m = L.length - i ∧ i ≤ L.length ∧ Kn H H1 [] [(x3, .st q.cells)] ∧
  e1 = [(3, .c (.ptr x3 0)), (4, .c (.int .i64 k)), (5, .c (.int .i64 o)), (44, .c (.sl fl1 1 (natsOf L))), (45, .c (.int .i64 L.length)), (46, .c (.int .i64 i))]) L.length ?_ ?_))
 ·exact ⟨0, by omega, by omega, kn, rfl⟩
 ·rintro m e1 H8 ⟨i, hm, hi, kn, rfl⟩
  have hx3 := kn.l 0 rfl
  refine s_reg ?_
  simp only [go_sem]
  refine c_seq (c_cond rfl ?_ ?_)
  ·intro hc
   have hlt : i < L.length := by simpa using hc
   have hmem : L.getD i 0 ∈ bodyL (blksOf q.blocks).length (nxN (gnx q)) o := hBk _ (by rw [List.getD_eq_getElem?_getD, List.getElem?_eq_getElem hlt]; exact List.getElem_mem hlt)
   refine c_skip ?_
   simp only [go_sem]
   refine c_seq (c_block ?_)
   refine s_reg ?_
   simp only [go_sem, hlt, natsOf_len, natsOf_getD _ _ hlt]
   refine s_reg ?_
   simp only [go_sem, hx3, CodeD.cells]
   refine LoopBody_c hg fun fl2 H9 hu => ?_
   have kn := kn.call0 hu
   rw [hlo]
   simp only [go_sem, s_la_FnLoopOuter_i11]
   refine wwHas_c (ns := (bodyL (blksOf q.blocks).length (nxN (gnx q)) o).map Int.ofNat) (.mk' _ _ _ _) rfl ?_
   rw [nat_contains]
   simp only [go_sem, s_la_FnLoopOuter_i10, hmem, decide_true]
   refine c_cond rfl (fun h => by simp at h) (fun _ => ?_)
   refine c_skip ?_
   simp only [go_sem]
   refine c_reg ?_
   simp only [go_sem, X.next]
   exact ⟨inR64 (by omega) (by omega), L.length - (i + 1), by omega, i + 1, rfl, by omega, kn, rfl⟩
  ·intro hc
   refine c_exit ?_
   simp only [go_sem, X.next]
   refine s_dreg ?_
   simp only [go_sem, hx3, CodeD.cells]
   refine Dominates_c hg hf hol hk fun H9 hu => ?_
   have kn := kn.call0 hu
   have hx3 := kn.l 0 rfl
   rw [hdm]
   simp only [go_sem, s_la_FnLoopOuter_i19, hx3, CodeD.cells]
   refine LoopDepth_c hg hf hol hoi fun H10 hu => ?_
   have kn := kn.call0 hu
   have hx3 := kn.l 0 rfl
   simp only [go_sem, s_la_FnLoopOuter_i18, hx3, CodeD.cells]
   refine LoopDepth_c hg hf hk hki fun H11 hu => ?_
   have hlt : decide ((depN (blksOf q.blocks).length (nxN (gnx q)) o : Int) < (depN (blksOf q.blocks).length (nxN (gnx q)) k : Int)) = true := by simp; omega
   simp only [go_sem, s_la_FnLoopOuter_i17, hlt]
   refine c_ret ?_
   exact retT' _ _ rfl
end Go.AE.Y

namespace Go.AE.Y
open Go.ChangeShapes Go.WideShapes Go.ChangeAt Go.RowKit
def IsBytes (w : World) (a : Option Addr) (len cap : Nat) (zs : List Int) : Prop :=
 (a = none ∧ len = 0 ∧ cap = 0 ∧ zs = []) ∨
 ∃ x, a = some x ∧ len ≤ cap ∧ zs.length = cap ∧ (∀ i, i < zs.length → w.cell? (x.add i) = some (.int .u8 (zs.getD i 0))) ∧ ∀ n ∈ zs, (Lit.int .u8 n).wf = true
theorem sat_start (w : World) : Sat (fun _ => .none) ⟨fun b => decide (b < w.heap.size), fun _ => none, fun _ => none⟩ w := by
 refine ⟨fun b hb => ⟨by simp; omega, rfl⟩, ⟨0, fun _ _ => rfl⟩, fun b x h => by simp at h, fun b l p h => by simp at h, fun l => trivial⟩
theorem byte_of {n : Int} (h : (Lit.int .u8 n).wf = true) : ((UInt8.ofNat n.toNat).toNat : Int) = n := by
 simp only [Lit.wf, Bool.and_eq_true, decide_eq_true_eq] at h
 have a1 : IntKind.min .u8 = 0 := by decide
 have a2 : IntKind.max .u8 = 255 := by decide
 rw [a1, a2] at h
 rw [UInt8.toNat_ofNat']
 omega
theorem calls_of_acall {P : Program} {f : Nat} (h : ∀ bs : List UInt8, bs.length ≤ 1048576 → ACall P f [.c (.sl false 1 (bytesOf bs))] (fun _ => .none) fun v _ => v = .c (.bool true))
  {a0 : Option Addr} {len0 cap0 : Nat} {z0 : List Int} {w : World} (hr : IsBytes w a0 len0 cap0 z0) (hl : len0 ≤ 1048576) :
  Calls P f #[.slice a0 len0 cap0] w fun e w' => e = .returned (.bool true) ∧ Below w.heap.size w w' := by
 have key : ∃ bs : List UInt8, bs.length = len0 ∧ RepC w ⟨fun b => decide (b < w.heap.size), fun _ => none, fun _ => none⟩ (.sl false 1 (bytesOf bs)) (.slice a0 len0 cap0) := by
  rcases hr with ⟨rfl, rfl, rfl, rfl⟩ | ⟨x, rfl, hlc, hz, hcell, hwf⟩
  ·exact ⟨[], rfl, .slnil _ _ _⟩
  ·obtain ⟨b, off, spot⟩ := x
   have hbl : ((z0.take len0).map fun n => UInt8.ofNat n.toNat).length = len0 := by simp; omega
   by_cases h0 : cap0 = 0
   ·subst h0
    have : len0 = 0 := by omega
    subst this
    exact ⟨[], rfl, .slnil _ _ _⟩
   have hc0 := hcell 0 (by omega)
   have hspot : spot = none := by simpa [Addr.add] using World.cell?_spot hc0
   subst hspot
   have hadd : ∀ i, (⟨b, off, none⟩ : Addr).add i = ⟨b, off + i, none⟩ := by
    intro i
    by_cases h : i = 0 <;> simp [Addr.add, h]
   have hb : b < w.heap.size := by
    rcases Nat.lt_or_ge b w.heap.size with h | h
    ·exact h
    ·simp [World.cell?, Addr.add, Array.getElem?_eq_none h] at hc0
   refine ⟨_, hbl, ?_⟩
   have hget : ∀ (i : Nat) (row : List C), (bytesOf ((z0.take len0).map fun n => UInt8.ofNat n.toNat))[i]? = some row → i < len0 ∧ row = [.int .u8 (z0.getD i 0)] := by
    intro i row hi
    have hlt : i < len0 := by
     rcases Nat.lt_or_ge i len0 with h | h
     ·exact h
     ·rw [List.getElem?_eq_none (by rw [bytesOf_len]; omega)] at hi; simp at hi
    have hz0 : i < z0.length := by omega
    refine ⟨hlt, ?_⟩
    simp only [bytesOf, List.getElem?_map, List.getElem?_take, if_pos hlt, List.getElem?_eq_getElem hz0, Option.map_some, Option.some.injEq] at hi
    rw [← hi, byte_of (hwf _ (List.getElem_mem hz0))]
    simp [List.getD_eq_getElem?_getD, hz0]
   have := RepC.sl (w := w) (g := ⟨fun b => decide (b < w.heap.size), fun _ => none, fun _ => none⟩) false 1 (bytesOf ((z0.take len0).map fun n => UInt8.ofNat n.toNat)) b off cap0 (fun i _ => .int .u8 (z0.getD i 0))
    (by rw [bytesOf_len, hbl]; simp only [LIM]; omega) (by simp) (by rw [bytesOf_len, hbl]; exact hlc) (by simpa using hb)
    (fun i row hi => by rw [(hget i row hi).2]; rfl)
    (fun i row j c hi hj => by
     obtain ⟨h1, rfl⟩ := hget i row hi
     have hj0 : j = 0 := by
      rcases Nat.eq_zero_or_pos j with h | h
      ·exact h
      ·rw [List.getElem?_eq_none (by simp; omega)] at hj; simp at hj
     subst hj0
     have := hcell i (by omega)
     rw [hadd] at this
     simpa using this)
    (fun i row j c hi hj => by
     obtain ⟨h1, rfl⟩ := hget i row hi
     have hj0 : j = 0 := by
      rcases Nat.eq_zero_or_pos j with h | h
      ·exact h
      ·rw [List.getElem?_eq_none (by simp; omega)] at hj; simp at hj
     subst hj0
     simp at hj; subst hj
     exact .int _ _)
   rw [bytesOf_len, hbl] at this
   exact this
 obtain ⟨bs, hbl, hrep⟩ := key
 have hc := (h bs (by omega)).2 _ w [.slice a0 len0 cap0] (sat_start w) rfl (fun j x u hj hu => by
  cases j with
  | zero => simp at hj hu; subst hj; subst hu; exact .c _ _ hrep
  | succ j => simp at hj)
 refine hc.mono fun e w' => ?_
 rintro ⟨v, x, H', g', rfl, rfl, hst, hv⟩
 have : v = .bool true := by cases hv with | c _ _ h => cases h; rfl
 subst this
 exact ⟨rfl, hst.le.os, hst.le.tape, hst.le.output, hst.le.size, fun k hk => (hst.le.per k (by simpa using hk)).2⟩
end Go.AE.Y

