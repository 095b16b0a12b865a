/- Part 6 of the proof: the engine, codes, walks and plain laws, each named where it stands. -/
import Derived.Test.YtajdffbgjodbfaaGreatZE
import Derived.Below
import Derived.OpenShut
import Derived.ProofKit
open Nat (reduceEqDiff reduceAdd reduceLeDiff reduceLT)
set_option linter.unusedVariables false
set_option linter.unusedSimpArgs false
set_option maxRecDepth 4000
namespace Go.AE.Y
open Go.Proofs.Tryz
variable {H H0 : Heap} {K : V → Heap → Prop}
structure InB (n : Nat) (g : Nat → List Nat) (S : List Bool) (ks : List Nat) : Prop where
 len : S.length = n
 s : ∀ x, x < n → S.getD x false = (decide (x ∈ ks) || !rchB g (-1) x)
 nd : ks.Nodup
 lt : ∀ x ∈ ks, x < n
 i : ∀ x ∈ ks, rchB g (-1) x = true
 c : ks.length ≤ cnt S
theorem InB.add {n : Nat} {g : Nat → List Nat} {S : List Bool} {ks : List Nat} {b : Nat} (h : InB n g S ks) (hb : b < n) (hbs : b ∉ ks) (hi : rchB g (-1) b = true) : S.getD b false = false ∧ InB n g (S.set b true) (ks ++ [b]) := by
 have hsb : S.getD b false = false := by rw [h.s b hb]; simp [hbs, hi]
 have hbS : b < S.length := by rw [h.len]; exact hb
 refine ⟨hsb, by rw [List.length_set]; exact h.len, fun x hx => ?_, ?_, fun x hx => ?_, fun x hx => ?_, ?_⟩
 ·rw [getD_set]
  by_cases hxb : x = b
  ·subst hxb; simp [hbS]
  ·simp only [hxb, false_and, if_false, List.mem_append, List.mem_singleton, or_false]
   exact h.s x hx
 ·refine List.nodup_append.2 ⟨h.nd, by simp, fun a ha c hc => ?_⟩
  simp at hc; subst hc; exact fun e => hbs (e ▸ ha)
 ·rcases List.mem_append.1 hx with hx | hx
  ·exact h.lt x hx
  ·simp at hx; omega
 ·rcases List.mem_append.1 hx with hx | hx
  ·exact h.i x hx
  ·simp at hx; subst hx; exact hi
 ·rw [cnt_set hbS hsb, List.length_append]
  have := h.c
  simp; omega
def bdCaps (x5 x6 : Nat) (dc : List C) : List C := [.ptr x5 0, .pp [.pp dc], .ptr x6 0]
def bdE (M x5 x6 ver : Nat) (dc : List C) (ks : List Nat) : List (Nat × Obj) :=
 [(M, .map ver (mapOf ks)), (x5, .st [.mp M]), (x6, .st [.fn fn_im_doms_body_c1 (bdCaps x5 x6 dc)])]
set_option maxHeartbeats 2000000 in
theorem add_c {F : Heap} {p rg : Int} {fl : Bool} {rows : List (List C)} {nx : Nat → List Int} {M x5 x6 : Nat} (hg : GF rows nx) (hf : fitsB rows.length nx = true) :
  ∀ (u b : Nat) (S : List Bool) (ks o : List Nat) (ver : Nat) (H : Heap) (K : V → Heap → Prop), rows.length - cnt S < u → b < rows.length → InB rows.length (nxN nx) S ks →
   Kn F H (bdE M x5 x6 ver (domC p rg fl rows (nxN nx)) ks) [] →
   (∀ (S' : List Bool) (ks' o' : List Nat) (ver' : Nat) (H' : Heap), Dfs (predL rows.length (nxN nx)) [b] S o S' o' → InB rows.length (nxN nx) S' ks' → Kn F H' (bdE M x5 x6 ver' (domC p rg fl rows (nxN nx)) ks') [] → K (.tup []) H') →
   ACall prog fn_im_doms_body_c1 ([.c (.int .i64 b)] ++ (bdCaps x5 x6 (domC p rg fl rows (nxN nx))).map .c) H K := by
 have hn := hg.n
 intro u
 induction u with
 | zero => intro b S ks o ver H K hu; omega
 | succ u ih =>
  intro b S ks o ver H K hu hb hin kn hK
  refine call_sound hmix m_im_doms_body_c1 ?_
  have hM := kn.e 0 rfl
  have hx5 := kn.e 1 rfl
  have hx6 := kn.e 2 rfl
  have hbi : b < (inL rows.length (nxN nx)).length := by rw [inL_len]; exact hb
  have hcl := cnt_le S
  have hSl := hin.len
  refine c_as ?_
  refine s_reg ?_
  simp only [go_sem, bdCaps, domC, hx5, hM, okMap, entriesOf, okKey_mapOf, findE_mapOf, hb, boolsOf_len, inL_len, boolsOf_getD _ _ hbi, inL_getD hb, reduceIte, reduceEqDiff, reduceAdd, reduceLeDiff, reduceLT, reduceCtorEq]
  refine c_seq (c_cond rfl ?_ ?_)
  ·intro hc
   have hsb : S.getD b false = true := by
    rw [hin.s b hb]
    by_cases h : b ∈ ks
    ·simp [h]
    ·simp only [h, decide_false, cond_false] at hc
     simp [hc]
   refine c_ret ?_
   simp only [go_sem, endQ, retT, r_im_doms_body_c1, List.not_mem_nil, reduceIte, reduceEqDiff, reduceAdd, reduceLeDiff, reduceLT, reduceCtorEq]
   exact ⟨fun _ => trivial, hK S ks o ver H (.skip hsb (.nil _ _)) hin kn⟩
  ·intro hc
   have hb2 : b ∉ ks ∧ rchB (nxN nx) (-1) b = true := by
    by_cases h : b ∈ ks
    ·simp [h] at hc
    ·simp only [h, decide_false, cond_false] at hc
     exact ⟨h, not_f hc⟩
   obtain ⟨hsb, hin1⟩ := hin.add hb hb2.1 hb2.2
   have hbS : b < S.length := by omega
   have hcS := cnt_set hbS hsb
   have hkl := hin.c
   refine c_skip ?_
   simp only [go_sem]
   refine s_reg ?_
   simp only [go_sem, hx5, hM, okKey_mapOf, mapOf_len, updE_mapOf _ _ hb2.1, reduceIte, reduceEqDiff, reduceAdd, reduceLeDiff, reduceLT, reduceCtorEq]
   refine ⟨by simp only [LIM]; omega, fun H1 h1 => ?_⟩
   have kn : Kn F H1 (bdE M x5 x6 (ver + 1) (domC p rg fl rows (nxN nx)) (ks ++ [b])) [] := kn.stE 0 rfl h1
   refine s_reg ?_
   simp only [go_sem, reduceIte, reduceEqDiff, reduceAdd, reduceLeDiff, reduceLT, reduceCtorEq]
   refine PredsOf_c (hg.grd _ _) fun fl' H2 hu2 => ?_
   have kn := kn.call0 hu2
   rw [predsIn_nat hf hb]
   simp only [go_sem, s_im_doms_body_c1_i0, intsOf_len, List.length_map, reduceIte, reduceEqDiff, reduceAdd, reduceLeDiff, reduceLT, reduceCtorEq]
   intro _
   have hpl := predL_len rows.length (nxN nx) b
   refine c_block (c_loop (fun m e1 H1 => ∃ (i : Nat) (S1 : List Bool) (ks1 o1 : List Nat) (ver1 : Nat), m = (predL rows.length (nxN nx) b).length - i ∧ i ≤ (predL rows.length (nxN nx) b).length ∧ Dfs (predL rows.length (nxN nx)) ((predL rows.length (nxN nx) b).take i) (S.set b true) o S1 o1 ∧
    InB rows.length (nxN nx) S1 ks1 ∧ Kn F H1 (bdE M x5 x6 ver1 (domC p rg fl rows (nxN nx)) ks1) [] ∧
    e1 = [(3, .c (.ptr x6 0)), (27, .c (.sl fl' 1 (natsOf (predL rows.length (nxN nx) b)))), (28, .c (.int .i64 (predL rows.length (nxN nx) b).length)), (29, .c (.int .i64 i))]) (predL rows.length (nxN nx) b).length ?_ ?_)
   ·exact ⟨0, _, _, o, _, by omega, by omega, .nil _ _, hin1, kn, rfl⟩
   ·rintro m e1 H3 ⟨i, S1, ks1, o1, ver1, hm, hi, hd, hin2, kn, rfl⟩
    have hx6 := kn.e 2 rfl
    have hgl : ∀ x, x < (S.set b true).length → ∀ z ∈ predL rows.length (nxN nx) x, z < (S.set b true).length := by
     rw [List.length_set, hSl]
     exact fun x hx z hz => (predL_mem.1 hz).1
    have hd2 := hd.count hgl (fun x hx => hgl b (by rw [List.length_set]; exact hbS) x (List.mem_of_mem_take hx))
    have hd3 := hd.olen
    have hd4 := cnt_le S1
    have hd5 := hin2.len
    refine s_reg ?_
    simp only [go_sem, reduceIte, reduceEqDiff, reduceAdd, reduceLeDiff, reduceLT, reduceCtorEq]
    refine c_seq (c_cond rfl ?_ ?_)
    ·intro hc2
     have hlt : i < (predL rows.length (nxN nx) b).length := by simpa using hc2
     have hgd : (predL rows.length (nxN nx) b).getD i 0 = (predL rows.length (nxN nx) b)[i] := by simp [List.getD_eq_getElem?_getD, hlt]
     have hql := (predL_mem.1 (List.getElem_mem hlt)).1
     rw [← hgd] at hql
     have htk : (predL rows.length (nxN nx) b).take (i + 1) = (predL rows.length (nxN nx) b).take i ++ [(predL rows.length (nxN nx) b).getD i 0] := by
      rw [List.take_succ_eq_append_getElem hlt, hgd]
     refine c_skip ?_
     simp only [go_sem]
     refine c_seq (c_block ?_)
     refine s_reg ?_
     simp only [go_sem, hlt, natsOf_len, natsOf_getD _ _ hlt, reduceIte, reduceEqDiff, reduceAdd, reduceLeDiff, reduceLT, reduceCtorEq]
     refine c_reg ?_
     simp only [go_sem, hx6, reduceIte, reduceEqDiff, reduceAdd, reduceLeDiff, reduceLT, reduceCtorEq]
     refine ih _ S1 ks1 o1 ver1 H3 _ (by omega) hql hin2 kn fun S2 ks2 o2 ver2 H4 hd' hin3 kn => ?_
     refine c_reg ?_
     simp only [go_sem, X.next, reduceIte, reduceEqDiff, reduceAdd, reduceLeDiff, reduceLT, reduceCtorEq]
     refine ⟨inR64 (by omega) (by omega), (predL rows.length (nxN nx) b).length - (i + 1), by omega, i + 1, S2, ks2, o2, ver2, rfl, by omega, ?_, hin3, kn, rfl⟩
     rw [htk]; exact hd.app hd'
    ·intro hc2
     have hge : (predL rows.length (nxN nx) b).length ≤ i := by simpa using hc2
     rw [List.take_of_length_le hge] at hd
     refine c_exit ?_
     simp only [go_sem, X.next, endQ, retT, r_im_doms_body_c1, List.not_mem_nil, reduceIte, reduceEqDiff, reduceAdd, reduceLeDiff, reduceLT, reduceCtorEq]
     exact ⟨fun _ => trivial, hK S1 ks1 (o1 ++ [b]) ver1 H3 (.one hsb hd) hin2 kn⟩
set_option maxHeartbeats 2000000 in
theorem body_c {p rg : Int} {fl : Bool} {rows : List (List C)} {nx : Nat → List Int} {h : Nat} (hg : GF rows nx) (hf : fitsB rows.length nx = true) (hh : h < rows.length) (hhi : rchB (nxN nx) (-1) h = true)
  (hK : ∀ fl' H', Upd H H' [] → K (.c (.sl fl' 1 (natsOf (bodyL rows.length (nxN nx) h)))) H') :
  ACall prog fn_im_doms_body [.c (.pp (domC p rg fl rows (nxN nx))), .c (.int .i64 h)] H K := by
 have hn := hg.n
 refine acall_un ?_
 refine call_sound hmix m_im_doms_body ?_
 refine s_reg ?_
 simp only [go_sem, reduceIte, reduceEqDiff, reduceAdd, reduceLeDiff, reduceLT, reduceCtorEq]
 refine s_reg ?_
 simp only [go_sem, reduceIte, reduceEqDiff, reduceAdd, reduceLeDiff, reduceLT, reduceCtorEq]
 intro M hM0 H1 h1
 have kn := (Kn.start0 H).al hM0 h1
 have hM := kn.l 0 rfl
 have e0 : ([] : List (C × V)) = mapOf [] := rfl
 simp only [go_sem, s_im_doms_body_i2, hM, e0, okKey_mapOf, mapOf_len, updE_mapOf _ _ (List.not_mem_nil (a := h)), reduceIte, reduceEqDiff, reduceAdd, reduceLeDiff, reduceLT, reduceCtorEq]
 refine ⟨by simp only [LIM]; omega, fun H2 h2 => ?_⟩
 have kn := kn.stL 0 rfl h2
 simp only [go_sem, s_im_doms_body_i1, reduceIte, reduceEqDiff, reduceAdd, reduceLeDiff, reduceLT, reduceCtorEq]
 intro x5 hx5 H3 h3
 have kn := kn.al hx5 h3
 have hx5 := kn.l 1 rfl
 simp only [go_sem, s_im_doms_body_i0, hx5, reduceIte, reduceEqDiff, reduceAdd, reduceLeDiff, reduceLT, reduceCtorEq]
 intro H4 h4
 have kn := kn.stL 1 rfl h4
 refine s_reg ?_
 simp only [go_sem, reduceIte, reduceEqDiff, reduceAdd, reduceLeDiff, reduceLT, reduceCtorEq]
 intro x6 hx6 H5 h5
 have kn := kn.al hx6 h5
 have hx6 := kn.l 2 rfl
 refine s_reg ?_
 simp only [go_sem, hx6, reduceIte, reduceEqDiff, reduceAdd, reduceLeDiff, reduceLT, reduceCtorEq]
 intro H6 h6
 have kn : Kn H H6 [] (bdE M x5 x6 1 (domC p rg fl rows (nxN nx)) [h] ++ []) := kn.stL 2 rfl h6
 have kF := kn.mid
 refine c_as ?_
 refine s_reg ?_
 simp only [go_sem, domC, reduceIte, reduceEqDiff, reduceAdd, reduceLeDiff, reduceLT, reduceCtorEq]
 refine PredsOf_c (hg.grd _ _) fun fl' H7 hu => ?_
 have kF := kF.call0 hu
 rw [predsIn_nat hf hh]
 simp only [go_sem, s_im_doms_body_i3, intsOf_len, List.length_map, reduceIte, reduceEqDiff, reduceAdd, reduceLeDiff, reduceLT, reduceCtorEq]
 intro _
 have hpl := predL_len rows.length (nxN nx) h
 have hS0 : InB rows.length (nxN nx) ((List.range rows.length).map fun x => decide (x = h) || !rchB (nxN nx) (-1) x) [h] := by
  refine ⟨by simp, fun x hx => ?_, by simp, by simpa using hh, by simpa using hhi, ?_⟩
  ·rw [map_range_getD _ _ hx]; simp
  ·have : 0 < cnt ((List.range rows.length).map fun x => decide (x = h) || !rchB (nxN nx) (-1) x) := by
    rw [cnt, List.count_pos_iff, List.mem_map]
    exact ⟨h, List.mem_range.2 hh, by simp⟩
   simp only [List.length_cons, List.length_nil]; omega
 refine c_seq (c_block (c_loop (fun m e1 H1 => ∃ (i : Nat) (S1 : List Bool) (ks1 o1 : List Nat) (ver1 : Nat), m = (predL rows.length (nxN nx) h).length - i ∧ i ≤ (predL rows.length (nxN nx) h).length ∧
  Dfs (predL rows.length (nxN nx)) (((predL rows.length (nxN nx) h).take i).filter (domB (nxN nx) h)) ((List.range rows.length).map fun x => decide (x = h) || !rchB (nxN nx) (-1) x) [] S1 o1 ∧
  InB rows.length (nxN nx) S1 ks1 ∧ Kn H6 H1 (bdE M x5 x6 ver1 (domC p rg fl rows (nxN nx)) ks1) [] ∧
  e1 = [(1, .c (.int .i64 h)), (2, .c (.pp [.pp (domC p rg fl rows (nxN nx))])), (5, .c (.ptr x5 0)), (6, .c (.ptr x6 0)), (18, .c (.sl fl' 1 (natsOf (predL rows.length (nxN nx) h)))), (19, .c (.int .i64 (predL rows.length (nxN nx) h).length)), (20, .c (.int .i64 i))]) (predL rows.length (nxN nx) h).length ?_ ?_))
 ·exact ⟨0, _, [h], [], 1, by omega, by omega, .nil _ _, hS0, kF, rfl⟩
 ·rintro m e1 H8 ⟨i, S1, ks1, o1, ver1, hm, hi, hd, hin, kF, rfl⟩
  have hx6 := kF.e 2 rfl
  have hx5 := kF.e 1 rfl
  have hM := kF.e 0 rfl
  refine s_reg ?_
  simp only [go_sem, reduceIte, reduceEqDiff, reduceAdd, reduceLeDiff, reduceLT, reduceCtorEq]
  refine c_seq (c_cond rfl ?_ ?_)
  ·intro hc2
   have hlt : i < (predL rows.length (nxN nx) h).length := by simpa using hc2
   have hgd : (predL rows.length (nxN nx) h).getD i 0 = (predL rows.length (nxN nx) h)[i] := by simp [List.getD_eq_getElem?_getD, hlt]
   have hql := (predL_mem.1 (List.getElem_mem hlt)).1
   rw [← hgd] at hql
   have htk : (predL rows.length (nxN nx) h).take (i + 1) = (predL rows.length (nxN nx) h).take i ++ [(predL rows.length (nxN nx) h).getD i 0] := by
    rw [List.take_succ_eq_append_getElem hlt, hgd]
   refine c_skip ?_
   simp only [go_sem]
   refine c_cut (fun e2 H2 => ∃ (S2 : List Bool) (ks2 o2 : List Nat) (ver2 : Nat), Dfs (predL rows.length (nxN nx)) (((predL rows.length (nxN nx) h).take (i + 1)).filter (domB (nxN nx) h)) ((List.range rows.length).map fun x => decide (x = h) || !rchB (nxN nx) (-1) x) [] S2 o2 ∧
    InB rows.length (nxN nx) S2 ks2 ∧ Kn H6 H2 (bdE M x5 x6 ver2 (domC p rg fl rows (nxN nx)) ks2) [] ∧
    lk 1 e2 = .c (.int .i64 h) ∧ lk 2 e2 = .c (.pp [.pp (domC p rg fl rows (nxN nx))]) ∧ lk 5 e2 = .c (.ptr x5 0) ∧ lk 6 e2 = .c (.ptr x6 0) ∧ lk 18 e2 = .c (.sl fl' 1 (natsOf (predL rows.length (nxN nx) h))) ∧ lk 19 e2 = .c (.int .i64 (predL rows.length (nxN nx) h).length) ∧ lk 20 e2 = .c (.int .i64 i)) ?_ ?_
   ·intro Q hnr _ _
    refine c_block ?_
    refine s_reg ?_
    simp only [go_sem, hlt, natsOf_len, natsOf_getD _ _ hlt, reduceIte, reduceEqDiff, reduceAdd, reduceLeDiff, reduceLT, reduceCtorEq]
    refine s_reg ?_
    simp only [go_sem, reduceIte, reduceEqDiff, reduceAdd, reduceLeDiff, reduceLT, reduceCtorEq]
    refine dominates_c hh hql ?_
    refine c_cond rfl ?_ ?_
    ·intro hdm
     refine c_reg ?_
     simp only [go_sem, hx6, reduceIte, reduceEqDiff, reduceAdd, reduceLeDiff, reduceLT, reduceCtorEq]
     refine add_c hg hf (rows.length + 1) _ S1 ks1 o1 ver1 H8 _ (by omega) hql hin kF fun S2 ks2 o2 ver2 H9 hd' hin2 kF => ?_
     refine hnr _ _ ⟨S2, ks2, o2, ver2, ?_, hin2, kF, rfl, rfl, rfl, rfl, rfl, rfl, rfl⟩
     rw [htk, List.filter_append, List.filter_cons, hdm]
     exact hd.app hd'
    ·intro hdm
     refine c_skip ?_
     simp only [go_sem]
     refine hnr _ _ ⟨S1, ks1, o1, ver1, ?_, hin, kF, rfl, rfl, rfl, rfl, rfl, rfl, rfl⟩
     rw [htk, List.filter_append, List.filter_cons, hdm]
     simpa using hd
   ·rintro e2 H2 ⟨S2, ks2, o2, ver2, hd, hin, kF, l1, l2, l5, l6, l18, l19, l20⟩
    refine c_reg ?_
    simp only [go_sem, X.next, l1, l2, l5, l6, l18, l19, l20, reduceIte, reduceEqDiff, reduceAdd, reduceLeDiff, reduceLT, reduceCtorEq]
    exact ⟨inR64 (by omega) (by omega), (predL rows.length (nxN nx) h).length - (i + 1), by omega, i + 1, S2, ks2, o2, ver2, rfl, by omega, hd, hin, kF, rfl⟩
  ·intro hc2
   have hge : (predL rows.length (nxN nx) h).length ≤ i := by simpa using hc2
   rw [List.take_of_length_le hge] at hd
   refine c_exit ?_
   simp only [go_sem, X.next]
   refine s_reg ?_
   simp only [go_sem, hx5, reduceIte, reduceEqDiff, reduceAdd, reduceLeDiff, reduceLT, reduceCtorEq]
   have hkl := hin.c
   have hcl := cnt_le S1
   have hSl := hin.len
   refine sortedKeys_bool_c hM hin.nd (by simp only [LIM]; omega) fun fl2 l H9 hu hasc hmem => ?_
   have kn := kn.comp (kF.call0 hu) rfl
   simp only [go_sem, s_im_doms_body_i9, reduceIte, reduceEqDiff, reduceAdd, reduceLeDiff, reduceLT, reduceCtorEq]
   refine c_ret ?_
   simp only [go_sem, endQ, retT, r_im_doms_body, List.mem_singleton, forall_eq, RS.op, reduceIte, reduceEqDiff, reduceAdd, reduceLeDiff, reduceLT, reduceCtorEq]
   have hl : l = bodyL rows.length (nxN nx) h := by
    refine asc_eq hasc bodyL_asc fun x => ?_
    rw [hmem, bodyL_mem hh]
    have hof := fun (hx : x < rows.length) (hix : rchB (nxN nx) (-1) x = true) => Bdy.of_dfs (n := rows.length) hhi hh (by simp) (fun y hy => map_range_getD _ _ hy) hd hx hix
    constructor
    ·intro hx
     have hxl := hin.lt x hx
     have hxi := hin.i x hx
     refine (hof hxl hxi).1 ?_
     rw [hin.s x hxl]; simp [hx]
    ·intro hx
     have hxl := hx.lt hh
     have hxi := hx.reached hhi
     have := (hof hxl hxi).2 hx
     rw [hin.s x hxl, hxi] at this
     simpa using this
   rw [hl]
   exact ⟨_, .c _ _ (frzc_sl (noOw_mem (natsOf_noOw _))), hK _ _ kn.fin⟩
end Go.AE.Y

namespace Go.AE.Y
open Go.Proofs.Tryz
variable {H H0 : Heap} {K : V → Heap → Prop} {E B Lg : List (Nat × Obj)}
def Gw (Lg : List (Nat × Obj)) (sz : Nat) (rows : List (List C)) (c : C) : Prop :=
 (c = .sl true sz [] ∧ rows = [] ∧ Lg = []) ∨ ∃ y R, c = .vsl y sz 0 rows.length ∧ Lg = [(y, .vec sz R)] ∧ R.take rows.length = rows
end Go.AE.Y
namespace Go.AE
open Go.AE.Y
open Go.Proofs.Tryz
variable {H H0 : Heap} {K : V → Heap → Prop} {E B Lg : List (Nat × Obj)}
theorem Gr.gw {sz : Nat} {rows : List (List C)} {c : C} (h : Gr Lg sz rows c) : Gw Lg sz rows c := by
 rcases h with h | ⟨y, h1, h2⟩
 ·exact .inl h
 ·exact .inr ⟨y, rows, h1, h2, List.take_length⟩
end Go.AE
namespace Go.AE.Y
open Go.Proofs.Tryz
variable {H H0 : Heap} {K : V → Heap → Prop} {E B Lg : List (Nat × Obj)}
theorem Gw.isOw {sz : Nat} {rows : List (List C)} {c : C} (h : Gw Lg sz rows c) : c.isOw = false := by rcases h with ⟨rfl, _⟩ | ⟨y, R, rfl, _⟩ <;> rfl
theorem Gw.frz {ns : List Int} {c : C} (h : Gw Lg 1 (intsOf ns) c) (kn : Kn H0 H E (B ++ Lg)) : FrzC H (un H0) c (.sl false 1 (intsOf ns)) := by
 rcases h with ⟨rfl, h2, _⟩ | ⟨y, R, rfl, rfl, hR⟩
 ·rw [h2]; exact FrzR.nil.sl
 ·have hle : (intsOf ns).length ≤ R.length := by
   have := congrArg List.length hR
   rw [List.length_take] at this
   omega
  have h := FrzR.same (H := H) (S := un H0) (intsOf_noOw ns)
  exact .vsl y 1 0 _ R (intsOf ns) (intsOf ns) (un_free (kn.loc (y, .vec 1 R) (by simp))) (kn.get (y, .vec 1 R) (by simp)).1 (by omega) (by simpa using hR.symm) h.spec.1 (fun i r r' h1 h2 => (h.spec.2 i r r' h1 h2).spec.1) fun i r r' j c c' h1 h2 h3 h4 => (h.spec.2 i r r' h1 h2).spec.2 j c c' h3 h4
theorem Clone_c {fl : Bool} {ns : List Int} {L : List (Nat × Obj)} (kn : Kn H0 H E L) (hl : ns.length ≤ LIM) (hK : ∀ t Lg H', Gr Lg 1 (intsOf ns) t → t.isOw = false → Kn H0 H' E (L ++ Lg) → K (.c t) H') :
  ACall prog fn_sl_Clone [.c (.sl fl 1 (intsOf ns))] H K := by
 refine call_sound hmix m_sl_Clone ?_
 refine s_reg ?_
 simp only [go_sem, reduceIte, reduceEqDiff, reduceAdd, reduceLeDiff, reduceLT, reduceCtorEq]
 refine c_as ?_
 refine s_reg ?_
 simp only [go_sem, reduceIte, reduceEqDiff, reduceAdd, reduceLeDiff, reduceLT, reduceCtorEq]
 intro b hb
 refine c_seq (c_cond rfl ?_ ?_)
 ·intro hbt
  have hn := hb hbt
  refine s_reg ?_
  simp only [go_sem, reduceIte, reduceEqDiff, reduceAdd, reduceLeDiff, reduceLT, reduceCtorEq]
  refine c_ret ?_
  simp only [go_sem, endQ, retT, r_sl_Clone, List.mem_singleton, forall_eq, RS.op, reduceIte, reduceEqDiff, reduceAdd, reduceLeDiff, reduceLT, reduceCtorEq]
  refine hK _ [] H ?_ rfl (by simpa using kn)
  rw [hn]; exact .nil 1
 ·intro hbf
  refine c_skip ?_
  simp only [go_sem]
  refine s_reg ?_
  simp only [go_sem, intsOf_len, reduceIte, reduceEqDiff, reduceAdd, reduceLeDiff, reduceLT, reduceCtorEq]
  refine ⟨.inl trivial, intsOf_noOw _, by omega, fun z hz H1 h1 => ?_⟩
  have kn := kn.al hz h1
  simp only [go_sem, s_sl_Clone_i1, reduceIte, reduceEqDiff, reduceAdd, reduceLeDiff, reduceLT, reduceCtorEq]
  refine c_ret ?_
  simp only [go_sem, endQ, retT, r_sl_Clone, List.mem_singleton, forall_eq, RS.op, reduceIte, reduceEqDiff, reduceAdd, reduceLeDiff, reduceLT, reduceCtorEq]
  exact hK _ _ H1 (.mk z 1 _ (by rw [intsOf_len]; omega)) rfl kn
theorem intsOf_set (ns : List Int) (i : Nat) (x : Int) : (intsOf ns).set i [.int .i64 x] = intsOf (ns.set i x) := by simp [intsOf, List.map_set]
theorem intsOf_take (ns : List Int) (k : Nat) : (intsOf ns).take k = intsOf (ns.take k) := by simp [intsOf, List.map_take]
set_option maxHeartbeats 2000000 in
theorem Compact_c {c : C} {ns : List Int} (kn : Kn H0 H E (B ++ Lg)) (hgr : Gr Lg 1 (intsOf ns) c) (hs : ns.Pairwise (· ≤ ·)) (hL : ns.length ≤ 2 ^ 38)
  (hK : ∀ t Lg' ns' H', Gw Lg' 1 (intsOf ns') t → t.isOw = false → Kn H0 H' E (B ++ Lg') → ns'.Pairwise (· < ·) → (∀ x, x ∈ ns' ↔ x ∈ ns) → ns'.length ≤ ns.length → K (.c t) H') :
  ACall prog fn_sl_Compact [.c c] H K := by
 have how := hgr.isOw
 have hok := eq_true (hgr.okSl kn)
 have hlen := hgr.lenC
 have hrw := hgr.rowsOf kn
 have hsz := hgr.elemSz
 refine call_sound hmix m_sl_Compact ?_
 refine s_reg ?_
 simp only [go_sem, how, reduceIte, reduceEqDiff, reduceAdd, reduceLeDiff, reduceLT, reduceCtorEq]
 refine c_as ?_
 refine s_reg ?_
 simp only [go_sem, how, hok, hlen, intsOf_len, reduceIte, reduceEqDiff, reduceAdd, reduceLeDiff, reduceLT, reduceCtorEq]
 intro _
 refine c_seq (c_cond rfl ?_ ?_)
 ·intro hc
  have h2 : ns.length < 2 := by have := of_decide_eq_true hc; omega
  refine s_reg ?_
  simp only [go_sem, how, reduceIte, reduceEqDiff, reduceAdd, reduceLeDiff, reduceLT, reduceCtorEq]
  refine c_ret ?_
  simp only [go_sem, endQ, retT, r_sl_Compact, List.mem_singleton, forall_eq, RS.op, how, reduceIte, reduceEqDiff, reduceAdd, reduceLeDiff, reduceLT, reduceCtorEq]
  exact hK c Lg ns H hgr.gw how kn (asc_of_ne hs fun i h0 hi => by omega) (fun _ => Iff.rfl) (Nat.le_refl _)
 ·intro hc
  have h2 : 2 ≤ ns.length := by have := of_decide_eq_false hc; omega
  obtain ⟨z, rfl, rfl⟩ : ∃ z, c = .vsl z 1 0 ns.length ∧ Lg = [(z, .vec 1 (intsOf ns))] := by
   rcases hgr with ⟨_, h, _⟩ | ⟨y, h1, h2⟩
   ·have : ns.length = 0 := by rw [← intsOf_len, h]; rfl
    omega
   ·exact ⟨y, by rw [h1, intsOf_len], h2⟩
  have hz := kn.l B.length (l := z) (o := .vec 1 (intsOf ns)) (by simp)
  refine c_skip ?_
  simp only [go_sem]
  refine c_as ?_
  refine s_reg ?_
  simp only [go_sem, reduceIte, reduceEqDiff, reduceAdd, reduceLeDiff, reduceLT, reduceCtorEq]
  refine c_seq (c_block (c_loop (fun m e1 H1 => ∃ (k : Nat), m = ns.length - k ∧ 0 < k ∧ k ≤ ns.length ∧ H1 = H ∧ (∀ i, 0 < i → i < k → ns.getD i 0 ≠ ns.getD (i - 1) 0) ∧ e1 = [(0, .c (.vsl z 1 0 ns.length)), (3, .c (.int .i64 k))]) (ns.length - 1) ?_ ?_))
  ·exact ⟨1, rfl, by omega, by omega, rfl, fun i h0 h1 => by omega, rfl⟩
  ·rintro m e1 H1 ⟨k, hm, hk0, hk, rfl, hne, rfl⟩
   refine c_as ?_
   refine s_reg ?_
   simp only [go_sem, hz, intsOf_len, Nat.zero_add, Nat.le_refl, reduceIte, reduceEqDiff, reduceAdd, reduceLeDiff, reduceLT, reduceCtorEq]
   intro hlim
   simp only [LIM] at hlim
   refine c_seq (c_cond rfl ?_ ?_)
   ·intro hc2
    have hlt : k < ns.length := by simpa using hc2
    have hlt1 : k - 1 < ns.length := by omega
    have e1 : ((k : Int) - 1) = ((k - 1 : Nat) : Int) := by omega
    have htk : (intsOf ns).take ns.length = intsOf ns := List.take_of_length_le (by rw [intsOf_len]; exact Nat.le_refl _)
    refine c_skip ?_
    simp only [go_sem]
    refine c_seq (c_block ?_)
    refine s_dreg ?_
    simp only [go_sem, hz, e1, hlt, hlt1, htk, intsOf_len, intsOf_getD _ _ hlt, intsOf_getD _ _ hlt1, Nat.zero_add, Nat.le_refl, reduceIte, reduceEqDiff, reduceAdd, reduceLeDiff, reduceLT, reduceCtorEq]
    refine ⟨inR64 (by omega) (by omega), ?_⟩
    refine c_cond rfl ?_ ?_
    ·intro hc3
     have heq : ns.getD k 0 = ns.getD (k - 1) 0 := by simpa using hc3
     refine s_reg ?_
     simp only [go_sem, hz, hlt, intsOf_len, Nat.zero_add, Nat.le_refl, reduceIte, reduceEqDiff, reduceAdd, reduceLeDiff, reduceLT, reduceCtorEq]
     refine ⟨by omega, ?_⟩
     refine c_as ?_
     refine s_reg ?_
     simp only [go_sem, reduceIte, reduceEqDiff, reduceAdd, reduceLeDiff, reduceLT, reduceCtorEq]
     refine c_seq (c_block (c_loop (fun m e1 H2 => ∃ (j kk : Nat) (R : List Int), m = ns.length - j ∧ k < j ∧ j ≤ ns.length ∧ Cmp ns R kk j ∧ Kn H0 H2 E (B ++ [(z, .vec 1 (intsOf R))]) ∧
      e1 = [(0, .c (.vsl z 1 0 ns.length)), (3, .c (.int .i64 kk)), (4, .c (.vsl z 1 k (ns.length - k))), (5, .c (.int .i64 ((j - k : Nat) : Int)))]) (ns.length - (k + 1)) ?_ ?_))
     ·refine ⟨k + 1, k, ns, rfl, by omega, by omega, .start hs hk0 hlt hne heq, kn, ?_⟩
      have : k + 1 - k = 1 := by omega
      rw [this]; rfl
     ·rintro m2 e1 H2 ⟨j, kk, R, hm2, hkj, hj, hcm, kn, rfl⟩
      have hz := kn.l B.length (l := z) (o := .vec 1 (intsOf R)) (by simp)
      have hRl := hcm.len
      have hkkj := hcm.kj
      refine c_as ?_
      refine s_reg ?_
      have e3 : k + (ns.length - k) = ns.length := by omega
      simp only [go_sem, hz, intsOf_len, hRl, e3, Nat.zero_add, Nat.le_refl, reduceIte, reduceEqDiff, reduceAdd, reduceLeDiff, reduceLT, reduceCtorEq]
      intro _
      refine c_seq (c_cond rfl ?_ ?_)
      ·intro hc4
       have hjl : j < ns.length := by have := of_decide_eq_true hc4; omega
       have hjR : j < R.length := by omega
       have hjR1 : j - 1 < R.length := by omega
       have hjk : j - k < ns.length - k := by omega
       have hjk1 : j - k - 1 < ns.length - k := by omega
       have e4 : (((j - k : Nat) : Int) - 1) = ((j - k - 1 : Nat) : Int) := by omega
       have hr1 : (((intsOf R).drop k).take (ns.length - k)).getD (j - k) [] = [.int .i64 (ns.getD j 0)] := by
        rw [← hcm.same j (by omega), ← intsOf_getD _ _ hjR]
        simp only [List.getD_eq_getElem?_getD, List.getElem?_take, List.getElem?_drop]
        rw [if_pos hjk]
        have : k + (j - k) = j := by omega
        rw [this]
       have hr2 : (((intsOf R).drop k).take (ns.length - k)).getD (j - k - 1) [] = [.int .i64 (ns.getD (j - 1) 0)] := by
        rw [← hcm.same (j - 1) (by omega), ← intsOf_getD _ _ hjR1]
        simp only [List.getD_eq_getElem?_getD, List.getElem?_take, List.getElem?_drop]
        rw [if_pos hjk1]
        have : k + (j - k - 1) = j - 1 := by omega
        rw [this]
       refine c_skip ?_
       simp only [go_sem]
       refine c_cut (fun e2 H3 => ∃ (kk : Nat) (R : List Int), Cmp ns R kk (j + 1) ∧ Kn H0 H3 E (B ++ [(z, .vec 1 (intsOf R))]) ∧
        lk 0 e2 = .c (.vsl z 1 0 ns.length) ∧ lk 3 e2 = .c (.int .i64 kk) ∧ lk 4 e2 = .c (.vsl z 1 k (ns.length - k)) ∧ lk 5 e2 = .c (.int .i64 ((j - k : Nat) : Int))) ?_ ?_
       ·intro Q hnr _ _
        refine c_block ?_
        refine s_dreg ?_
        simp only [go_sem, hz, e3, e4, hr1, hr2, hjk, hjk1, intsOf_len, hRl, Nat.le_refl, reduceIte, reduceEqDiff, reduceAdd, reduceLeDiff, reduceLT, reduceCtorEq]
        refine ⟨inR64 (by omega) (by omega), ?_⟩
        refine c_cond rfl ?_ ?_
        ·intro hc5
         have hne5 : ns.getD j 0 ≠ ns.getD (j - 1) 0 := by simpa using hc5
         have hkkl : kk < ns.length := by omega
         have hkkR : kk < R.length := by omega
         have htk : (intsOf R).take ns.length = intsOf R := List.take_of_length_le (by rw [intsOf_len]; omega)
         refine s_reg ?_
         simp only [go_sem, hz, e3, hr1, hjk, hkkl, htk, intsOf_getD _ _ hkkR, intsOf_set, intsOf_len, hRl, Nat.zero_add, Nat.le_refl, reduceIte, reduceEqDiff, reduceAdd, reduceLeDiff, reduceLT, reduceCtorEq]
         intro H3 h3
         have kn3 := kn.stL B.length (x := z) (o := .vec 1 (intsOf R)) (by simp) h3
         have kn : Kn H0 H3 E (B ++ [(z, .vec 1 (intsOf (R.set kk (ns.getD j 0))))]) := by simpa using kn3
         refine c_reg ?_
         simp only [go_sem, reduceIte, reduceEqDiff, reduceAdd, reduceLeDiff, reduceLT, reduceCtorEq]
         refine ⟨inR64 (by omega) (by omega), ?_⟩
         exact hnr _ _ ⟨kk + 1, _, hcm.ne hs hjl hne5, kn, rfl, rfl, rfl, rfl⟩
        ·intro hc5
         have heq5 : ns.getD j 0 = ns.getD (j - 1) 0 := by simpa using hc5
         refine c_skip ?_
         simp only [go_sem]
         exact hnr _ _ ⟨kk, R, hcm.eq hjl heq5, kn, rfl, rfl, rfl, rfl⟩
       ·rintro e2 H3 ⟨kk, R, hcm, kn, l0, l3, l4, l5⟩
        refine c_reg ?_
        simp only [go_sem, X.next, l0, l3, l4, l5, reduceIte, reduceEqDiff, reduceAdd, reduceLeDiff, reduceLT, reduceCtorEq]
        refine ⟨inR64 (by omega) (by omega), ns.length - (j + 1), by omega, j + 1, kk, R, rfl, by omega, by omega, hcm, kn, ?_⟩
        have : (((j - k : Nat) : Int) + 1) = ((j + 1 - k : Nat) : Int) := by omega
        rw [this]
      ·intro hc4
       have hje : j = ns.length := by have := of_decide_eq_false hc4; omega
       subst hje
       have hkkl : kk ≤ R.length := by omega
       refine c_exit ?_
       simp only [go_sem, X.next]
       refine s_reg ?_
       have e5 : kk + (ns.length - kk) = ns.length := by omega
       simp only [go_sem, hz, e5, intsOf_len, hRl, Nat.zero_add, Nat.le_refl, reduceIte, reduceEqDiff, reduceAdd, reduceLeDiff, reduceLT, reduceCtorEq]
       refine ⟨by omega, fun H3 h3 => ?_⟩
       have kn3 := kn.stL B.length (x := z) (o := .vec 1 (intsOf R)) (by simp) h3
       have htk2 : ((intsOf R).take kk ++ List.replicate (ns.length - kk) [C.int .i64 0] ++ (intsOf R).drop ns.length).take kk = intsOf (R.take kk) := by
        rw [List.append_assoc, List.take_append_of_le_length (by rw [List.length_take, intsOf_len]; omega), List.take_take, Nat.min_self, intsOf_take]
       have hl2 : ns.length ≤ ((intsOf R).take kk ++ List.replicate (ns.length - kk) [C.int .i64 0] ++ (intsOf R).drop ns.length).length := by
        simp only [List.length_append, List.length_take, List.length_replicate, List.length_drop, intsOf_len]; omega
       generalize (intsOf R).take kk ++ List.replicate (ns.length - kk) [C.int .i64 0] ++ (intsOf R).drop ns.length = R2 at *
       have kn : Kn H0 H3 E (B ++ [(z, .vec 1 R2)]) := by simpa using kn3
       have hz3 := kn.l B.length (l := z) (o := .vec 1 R2) (by simp)
       refine s_reg ?_
       simp only [go_sem, hz3, hl2, Nat.zero_add, Nat.sub_zero, reduceIte, reduceEqDiff, reduceAdd, reduceLeDiff, reduceLT, reduceCtorEq]
       refine ⟨by omega, ?_⟩
       refine c_ret ?_
       simp only [go_sem, X.next, endQ, retT, r_sl_Compact, List.mem_singleton, forall_eq, RS.op, reduceIte, reduceEqDiff, reduceAdd, reduceLeDiff, reduceLT, reduceCtorEq]
       have hrl : (intsOf (R.take kk)).length = kk := by rw [intsOf_len, List.length_take]; omega
       refine hK (.vsl z 1 0 kk) _ (R.take kk) H3 (.inr ⟨z, R2, ?_, rfl, ?_⟩) rfl kn hcm.asc (fun x => ?_) (by rw [List.length_take]; omega)
       ·rw [hrl]
       ·rw [hrl]; exact htk2
       ·rw [hcm.mem, List.take_length]
    ·intro hc3
     have hneq : ¬ ns.getD k 0 = ns.getD (k - 1) 0 := by simpa using hc3
     refine c_skip ?_
     simp only [go_sem]
     refine c_reg ?_
     simp only [go_sem, X.next, reduceIte, reduceEqDiff, reduceAdd, reduceLeDiff, reduceLT, reduceCtorEq]
     refine ⟨inR64 (by omega) (by omega), ns.length - (k + 1), by omega, k + 1, rfl, by omega, by omega, fun i h0 h1 => ?_, rfl⟩
     by_cases h : i < k
     ·exact hne i h0 h
     ·have : i = k := by omega
      subst this; exact hneq
   ·intro hc2
    have hge : ns.length ≤ k := by simpa using hc2
    refine c_exit ?_
    simp only [go_sem, X.next]
    refine s_reg ?_
    simp only [go_sem, reduceIte, reduceEqDiff, reduceAdd, reduceLeDiff, reduceLT, reduceCtorEq]
    refine c_ret ?_
    simp only [go_sem, endQ, retT, r_sl_Compact, List.mem_singleton, forall_eq, RS.op, reduceIte, reduceEqDiff, reduceAdd, reduceLeDiff, reduceLT, reduceCtorEq]
    exact hK _ _ ns H1 hgr.gw rfl kn (asc_of_ne hs fun i h0 hi => hne i h0 (by omega)) (fun _ => Iff.rfl) (Nat.le_refl _)
theorem once_c {fl : Bool} {ns : List Int} (hL : ns.length ≤ 2 ^ 38) (hK : ∀ ns' H', Upd H H' [] → ns'.Pairwise (· < ·) → (∀ x, x ∈ ns' ↔ x ∈ ns) → ns'.length ≤ ns.length → K (.c (.sl false 1 (intsOf ns'))) H') :
  ACall prog fn_im_once [.c (.sl fl 1 (intsOf ns))] H K := by
 refine acall_un ?_
 refine call_sound hmix m_im_once ?_
 refine s_reg ?_
 simp only [go_sem, reduceIte, reduceEqDiff, reduceAdd, reduceLeDiff, reduceLT, reduceCtorEq]
 refine s_reg ?_
 simp only [go_sem, reduceIte, reduceEqDiff, reduceAdd, reduceLeDiff, reduceLT, reduceCtorEq]
 refine Clone_c (Kn.start0 H) (by simp only [LIM]; omega) fun t Lg H1 hgr how kn => ?_
 simp only [go_sem, s_im_once_i0, reduceIte, reduceEqDiff, reduceAdd, reduceLeDiff, reduceLT, reduceCtorEq]
 refine s_reg ?_
 simp only [go_sem, how, reduceIte, reduceEqDiff, reduceAdd, reduceLeDiff, reduceLT, reduceCtorEq]
 refine Sort_c kn hgr fun Lg H2 hgr kn => ?_
 refine s_reg ?_
 simp only [go_sem, how, reduceIte, reduceEqDiff, reduceAdd, reduceLeDiff, reduceLT, reduceCtorEq]
 refine Compact_c kn hgr (srt_sorted ns) (by rw [srt_len]; exact hL) fun t2 Lg2 ns' H3 hgw how2 kn h1 h2 h3 => ?_
 simp only [go_sem, s_im_once_i1, how2, reduceIte, reduceEqDiff, reduceAdd, reduceLeDiff, reduceLT, reduceCtorEq]
 refine c_ret ?_
 simp only [go_sem, endQ, retT, r_im_once, List.mem_singleton, forall_eq, RS.op, how2, reduceIte, reduceEqDiff, reduceAdd, reduceLeDiff, reduceLT, reduceCtorEq]
 exact ⟨_, .c _ _ (hgw.frz kn), hK ns' _ kn.fin h1 (fun x => by rw [h2, srt_mem]) (by rw [srt_len] at h3; exact h3)⟩
end Go.AE.Y

namespace Go.AE.Y
open Go.Proofs.Tryz
variable {H H0 : Heap} {K : V → Heap → Prop} {E B Lg : List (Nat × Obj)}
noncomputable def headsL (n : Nat) (nx : Nat → List Int) : List Nat := if fitsB n nx then headL n (nxN nx) else []
noncomputable def loopL (n : Nat) (nx : Nat → List Int) (h : Int) : List Nat := if ((headsL n nx).map Int.ofNat).contains h then bodyL n (nxN nx) h.toNat else []
noncomputable def reachL (n : Nat) (nx : Nat → List Int) : List Nat := if fitsB n nx then (List.range n).filter (rchB (nxN nx) (-1)) else []
theorem headsL_not {n : Nat} {nx : Nat → List Int} (h : fitsB n nx = false) : headsL n nx = [] := by simp [headsL, h]
theorem headsL_fits {n : Nat} {nx : Nat → List Int} (h : fitsB n nx = true) : headsL n nx = headL n (nxN nx) := by simp [headsL, h]
theorem loopL_not {n : Nat} {nx : Nat → List Int} {h : Int} (hh : ((headsL n nx).map Int.ofNat).contains h = false) : loopL n nx h = [] := by rw [loopL, hh]; rfl
theorem headsL_mem {n : Nat} {nx : Nat → List Int} {h : Int} (hh : ((headsL n nx).map Int.ofNat).contains h = true) :
  ∃ k : Nat, h = k ∧ fitsB n nx = true ∧ k < n ∧ k ∈ headL n (nxN nx) ∧ rchB (nxN nx) (-1) k = true ∧ loopL n nx h = bodyL n (nxN nx) k := by
 have hl : loopL n nx h = bodyL n (nxN nx) h.toNat := by rw [loopL, hh, if_pos rfl]
 have hm := List.contains_iff_mem.1 hh
 obtain ⟨k, hk, rfl⟩ := List.mem_map.1 hm
 cases hf : fitsB n nx with
 | false => rw [headsL_not hf] at hk; simp at hk
 | true =>
  rw [headsL_fits hf] at hk
  obtain ⟨h1, p, _, h3⟩ := headL_mem.1 hk
  exact ⟨k, rfl, rfl, h1, hk, (domB_in h3).1, by rw [hl]; rfl⟩
theorem LoopHeads_c {p rg : Int} {fl : Bool} {rows : List (List C)} {nx : Nat → List Int} (hg : GF rows nx)
  (hK : ∀ fl' H', Upd H H' [] → K (.c (.sl fl' 1 (natsOf (headsL rows.length nx)))) H') :
  ACall prog fn_im_LoopHeads [.ag [.int .i64 p, .int .i64 rg, .sl fl 5 rows]] H K := by
 refine acall_un ?_
 refine call_sound hmix m_im_LoopHeads ?_
 refine s_reg ?_
 simp only [go_sem, reduceIte, reduceEqDiff, reduceAdd, reduceLeDiff, reduceLT, reduceCtorEq]
 refine s_reg ?_
 simp only [go_sem, reduceIte, reduceEqDiff, reduceAdd, reduceLeDiff, reduceLT, reduceCtorEq]
 refine domsOf_c hg (fun hf H1 hu => ?_) (fun hf H1 hu => ?_)
 ·have kn := (Kn.start0 H).call0 hu
  simp only [go_sem, s_im_LoopHeads_i0, reduceIte, reduceEqDiff, reduceAdd, reduceLeDiff, reduceLT, reduceCtorEq]
  refine c_as ?_
  refine s_reg ?_
  simp only [go_sem, C.isPtr, reduceIte, reduceEqDiff, reduceAdd, reduceLeDiff, reduceLT, reduceCtorEq]
  refine ⟨.inr trivial, ?_⟩
  refine c_seq (c_cond rfl (fun _ => ?_) (fun h => by simp at h))
  refine s_reg ?_
  simp only [go_sem, reduceIte, reduceEqDiff, reduceAdd, reduceLeDiff, reduceLT, reduceCtorEq]
  refine c_ret ?_
  simp only [go_sem, endQ, retT, r_im_LoopHeads, List.mem_singleton, forall_eq, RS.op, reduceIte, reduceEqDiff, reduceAdd, reduceLeDiff, reduceLT, reduceCtorEq]
  have := hK false _ kn.fin
  rw [headsL_not hf] at this
  exact ⟨_, .c _ _ FrzR.nil.sl, this⟩
 ·have kn := (Kn.start0 H).call0 hu
  simp only [go_sem, s_im_LoopHeads_i0, reduceIte, reduceEqDiff, reduceAdd, reduceLeDiff, reduceLT, reduceCtorEq]
  refine c_as ?_
  refine s_reg ?_
  simp only [go_sem, C.isPtr, reduceIte, reduceEqDiff, reduceAdd, reduceLeDiff, reduceLT, reduceCtorEq]
  refine ⟨.inl trivial, ?_⟩
  refine c_seq (c_cond rfl (fun h => by simp at h) (fun _ => ?_))
  refine c_skip ?_
  simp only [go_sem]
  refine s_reg ?_
  simp only [go_sem, reduceIte, reduceEqDiff, reduceAdd, reduceLeDiff, reduceLT, reduceCtorEq]
  refine heads_c hg hf fun H2 hu => ?_
  have kn := kn.call0 hu
  simp only [go_sem, s_im_LoopHeads_i2, reduceIte, reduceEqDiff, reduceAdd, reduceLeDiff, reduceLT, reduceCtorEq]
  refine c_ret ?_
  simp only [go_sem, endQ, retT, r_im_LoopHeads, List.mem_singleton, forall_eq, RS.op, reduceIte, reduceEqDiff, reduceAdd, reduceLeDiff, reduceLT, reduceCtorEq]
  have := hK false _ kn.fin
  rw [headsL_fits hf] at this
  exact ⟨_, .c _ _ (frzc_sl (noOw_mem (natsOf_noOw _))), this⟩
theorem LoopBody_c {p rg : Int} {fl : Bool} {rows : List (List C)} {nx : Nat → List Int} {h : Int} (hg : GF rows nx)
  (hK : ∀ fl' H', Upd H H' [] → K (.c (.sl fl' 1 (natsOf (loopL rows.length nx h)))) H') :
  ACall prog fn_im_LoopBody [.ag [.int .i64 p, .int .i64 rg, .sl fl 5 rows], .c (.int .i64 h)] H K := by
 refine acall_un ?_
 refine call_sound hmix m_im_LoopBody ?_
 refine s_reg ?_
 simp only [go_sem, reduceIte, reduceEqDiff, reduceAdd, reduceLeDiff, reduceLT, reduceCtorEq]
 refine s_reg ?_
 simp only [go_sem, reduceIte, reduceEqDiff, reduceAdd, reduceLeDiff, reduceLT, reduceCtorEq]
 refine domsOf_c hg (fun hf H1 hu => ?_) (fun hf H1 hu => ?_)
 ·have kn := (Kn.start0 H).call0 hu
  simp only [go_sem, s_im_LoopBody_i0, reduceIte, reduceEqDiff, reduceAdd, reduceLeDiff, reduceLT, reduceCtorEq]
  refine c_as ?_
  refine s_reg ?_
  simp only [go_sem, C.isPtr, s_im_LoopBody_i2, s_im_LoopBody_i1, reduceIte, reduceEqDiff, reduceAdd, reduceLeDiff, reduceLT, reduceCtorEq]
  refine ⟨.inr trivial, ?_⟩
  refine c_seq (c_cond rfl (fun _ => ?_) (fun h => by simp at h))
  refine s_reg ?_
  simp only [go_sem, reduceIte, reduceEqDiff, reduceAdd, reduceLeDiff, reduceLT, reduceCtorEq]
  refine c_ret ?_
  simp only [go_sem, endQ, retT, r_im_LoopBody, List.mem_singleton, forall_eq, RS.op, reduceIte, reduceEqDiff, reduceAdd, reduceLeDiff, reduceLT, reduceCtorEq]
  have := hK false _ kn.fin
  rw [loopL_not (by rw [headsL_not hf]; rfl)] at this
  exact ⟨_, .c _ _ FrzR.nil.sl, this⟩
 ·have kn := (Kn.start0 H).call0 hu
  simp only [go_sem, s_im_LoopBody_i0, reduceIte, reduceEqDiff, reduceAdd, reduceLeDiff, reduceLT, reduceCtorEq]
  refine c_as ?_
  refine s_reg ?_
  simp only [go_sem, C.isPtr, reduceIte, reduceEqDiff, reduceAdd, reduceLeDiff, reduceLT, reduceCtorEq]
  refine ⟨.inl trivial, ?_⟩
  refine heads_c hg hf fun H2 hu => ?_
  have kn := kn.call0 hu
  simp only [go_sem, s_im_LoopBody_i2, reduceIte, reduceEqDiff, reduceAdd, reduceLeDiff, reduceLT, reduceCtorEq]
  refine Contains_c (ns := (headL rows.length (nxN nx)).map Int.ofNat) (.mk' _ _ _ _) rfl ?_
  simp only [go_sem, s_im_LoopBody_i1, reduceIte, reduceEqDiff, reduceAdd, reduceLeDiff, reduceLT, reduceCtorEq]
  refine c_seq (c_cond rfl (fun hc => ?_) (fun hc => ?_))
  ·have hc' : ((headL rows.length (nxN nx)).map Int.ofNat).contains h = false := by simpa using hc
   refine s_reg ?_
   simp only [go_sem, reduceIte, reduceEqDiff, reduceAdd, reduceLeDiff, reduceLT, reduceCtorEq]
   refine c_ret ?_
   simp only [go_sem, endQ, retT, r_im_LoopBody, List.mem_singleton, forall_eq, RS.op, reduceIte, reduceEqDiff, reduceAdd, reduceLeDiff, reduceLT, reduceCtorEq]
   have := hK false _ kn.fin
   rw [loopL_not (by rw [headsL_fits hf]; exact hc')] at this
   exact ⟨_, .c _ _ FrzR.nil.sl, this⟩
  ·have hc' : ((headsL rows.length nx).map Int.ofNat).contains h = true := by rw [headsL_fits hf]; simpa using hc
   obtain ⟨k, rfl, _, hk, _, hin, hl⟩ := headsL_mem hc'
   refine c_skip ?_
   simp only [go_sem]
   refine s_reg ?_
   simp only [go_sem, reduceIte, reduceEqDiff, reduceAdd, reduceLeDiff, reduceLT, reduceCtorEq]
   refine body_c hg hf hk hin fun fl' H3 hu => ?_
   have kn := kn.call0 hu
   simp only [go_sem, s_im_LoopBody_i4, reduceIte, reduceEqDiff, reduceAdd, reduceLeDiff, reduceLT, reduceCtorEq]
   refine c_ret ?_
   simp only [go_sem, endQ, retT, r_im_LoopBody, List.mem_singleton, forall_eq, RS.op, reduceIte, reduceEqDiff, reduceAdd, reduceLeDiff, reduceLT, reduceCtorEq]
   have := hK false _ kn.fin
   rw [hl] at this
   exact ⟨_, .c _ _ (frzc_sl (noOw_mem (natsOf_noOw _))), this⟩
theorem ReachedIn_c {p rg : Int} {bc : C} {rows : List (List C)} {nx : Nat → List Int} (hg : GRd H bc rows nx) (hn : rows.length ≤ 1000000)
  (hK : ∀ H', Upd H H' [] → K (.c (.sl false 1 (natsOf (reachL rows.length nx)))) H') :
  ACall prog fn_im_ReachedIn [.ag [.int .i64 p, .int .i64 rg, bc]] H K := by
 have how := hg.ow
 refine acall_un ?_
 refine call_sound hmix m_im_ReachedIn ?_
 refine s_reg ?_
 simp only [go_sem, how, reduceIte, reduceEqDiff, reduceAdd, reduceLeDiff, reduceLT, reduceCtorEq]
 refine c_as ?_
 refine s_reg ?_
 simp only [go_sem, how, reduceIte, reduceEqDiff, reduceAdd, reduceLeDiff, reduceLT, reduceCtorEq]
 refine graphOk_c hg ?_
 simp only [go_sem, s_im_ReachedIn_i0, reduceIte, reduceEqDiff, reduceAdd, reduceLeDiff, reduceLT, reduceCtorEq]
 refine c_seq (c_cond rfl (fun hc => ?_) (fun hc => ?_))
 ·have hf := not_t hc
  refine s_reg ?_
  simp only [go_sem, reduceIte, reduceEqDiff, reduceAdd, reduceLeDiff, reduceLT, reduceCtorEq]
  refine c_ret ?_
  simp only [go_sem, endQ, retT, r_im_ReachedIn, List.mem_singleton, forall_eq, RS.op, reduceIte, reduceEqDiff, reduceAdd, reduceLeDiff, reduceLT, reduceCtorEq]
  have := hK _ (Kn.start0 H).fin
  simp only [reachL, hf] at this
  exact ⟨_, .c _ _ FrzR.nil.sl, this⟩
 ·have hf := not_f hc
  have hn0 := fitsB_pos hf
  refine c_skip ?_
  simp only [go_sem]
  refine s_reg ?_
  simp only [go_sem, how, reduceIte, reduceEqDiff, reduceAdd, reduceLeDiff, reduceLT, reduceCtorEq]
  refine visits_c hg hf hn fun S o H1 hu hd => ?_
  have kn := (Kn.start0 H).call0 hu
  simp only [go_sem, s_im_ReachedIn_i3, reduceIte, reduceEqDiff, reduceAdd, reduceLeDiff, reduceLT, reduceCtorEq]
  have hgl : ∀ x, x < (List.replicate rows.length false).length → ∀ y ∈ nxN nx x, y < (List.replicate rows.length false).length := by
   rw [List.length_replicate]; exact fun x hx y hy => nxN_lt hf hx hy
  have hx0 : ∀ x ∈ [0], x < (List.replicate rows.length false).length := by rw [List.length_replicate]; simpa using hn0
  have hcount := hd.count hgl hx0
  have hc0 : cnt (List.replicate rows.length false) = 0 := by simp [cnt, List.count_replicate]
  have hcl := cnt_le S
  have hSl := hd.len
  rw [List.length_replicate] at hSl
  have hol : o.length ≤ 1000000 := by simp only [List.length_nil] at hcount; omega
  refine once_c (ns := o.map Int.ofNat) (by rw [List.length_map]; omega) fun ns' H2 hu h1 h2 h3 => ?_
  have kn := kn.call0 hu
  simp only [go_sem, s_im_ReachedIn_i2, reduceIte, reduceEqDiff, reduceAdd, reduceLeDiff, reduceLT, reduceCtorEq]
  refine c_ret ?_
  simp only [go_sem, endQ, retT, r_im_ReachedIn, List.mem_singleton, forall_eq, RS.op, reduceIte, reduceEqDiff, reduceAdd, reduceLeDiff, reduceLT, reduceCtorEq]
  have he : ns' = (reachL rows.length nx).map Int.ofNat := by
   simp only [reachL, hf, if_pos]
   refine asc_ints h1 (List.Pairwise.filter _ List.pairwise_lt_range) fun x => ?_
   rw [h2]
   have hmem : ∀ y, y ∈ o ↔ y < rows.length ∧ rchB (nxN nx) (-1) y = true := by
    intro y
    rw [hd.list hgl hx0 (replicate_getD _) y, hd.seen hgl hx0 y]
    rw [replicate_getD]
    simp only [Bool.false_eq_true, false_or, List.mem_singleton, exists_eq_left, rchB_iff]
    constructor
    ·intro hr
     have hr2 := hr.mono (B := fun z => (z : Int) = -1) (fun z hz => by omega)
     exact ⟨hr2.lt (fun x hx y hy => nxN_lt hf hx hy) hn0, hr2⟩
    ·intro hr
     exact hr.2.mono fun z hz => by rw [replicate_getD] at hz; simp at hz
   constructor
   ·intro hx
    obtain ⟨y, hy, rfl⟩ := List.mem_map.1 hx
    obtain ⟨h1, h2⟩ := (hmem y).1 hy
    exact ⟨y, List.mem_filter.2 ⟨List.mem_range.2 h1, h2⟩, rfl⟩
   ·rintro ⟨y, hy, rfl⟩
    obtain ⟨h1, h2⟩ := List.mem_filter.1 hy
    exact List.mem_map.2 ⟨y, (hmem y).2 ⟨List.mem_range.1 h1, h2⟩, rfl⟩
  have := hK _ kn.fin
  rw [natsOf, ← he] at this
  exact ⟨_, .c _ _ (frzc_sl (noOw_mem (intsOf_noOw _))), this⟩
end Go.AE.Y

namespace Go.AE.Y
open Go.Proofs.Tryz
variable {H H0 : Heap} {K : V → Heap → Prop} {E B Lg : List (Nat × Obj)}
theorem bools_ext {n : Nat} {S : List Bool} {f : Nat → Bool} (hl : S.length = n) (h : ∀ x, x < n → S.getD x false = f x) : S = (List.range n).map f := by
 refine List.ext_getElem (by simp [hl]) fun i h1 h2 => ?_
 have hi : i < n := by rw [← hl]; exact h1
 have := h i hi
 simp only [List.getD_eq_getElem?_getD, List.getElem?_eq_getElem h1, Option.getD_some] at this
 simp [this]
theorem all_of_dfs {n : Nat} {nx : Nat → List Int} {S : List Bool} {o : List Nat} (hf : fitsB n nx = true) (hd : Dfs (nxN nx) [0] (List.replicate n false) [] S o) : S = inL n (nxN nx) := by
 have hn0 := fitsB_pos hf
 have hgl : ∀ x, x < (List.replicate n false).length → ∀ y ∈ nxN nx x, y < (List.replicate n false).length := by
  rw [List.length_replicate]; exact fun x hx y hy => nxN_lt hf hx hy
 have hx0 : ∀ x ∈ [0], x < (List.replicate n false).length := by rw [List.length_replicate]; simpa using hn0
 have hl := hd.len
 rw [List.length_replicate] at hl
 refine bools_ext hl fun x hx => ?_
 have hs := hd.seen hgl hx0 x
 rw [replicate_getD] at hs
 simp only [Bool.false_eq_true, false_or, List.mem_singleton, exists_eq_left] at hs
 rw [Bool.eq_iff_iff, hs, rchB_iff]
 exact ⟨fun hr => hr.mono fun z hz => by omega, fun hr => hr.mono fun z hz => by rw [replicate_getD] at hz; simp at hz⟩
theorem without_of_dfs {n : Nat} {nx : Nat → List Int} {S : List Bool} {o : List Nat} {a : Nat} (hf : fitsB n nx = true) (ha : a < n) (hd : Dfs (nxN nx) [0] ((List.replicate n false).set a true) [] S o) :
  S.set a false = (List.range n).map (rchB (nxN nx) a) := by
 have hn0 := fitsB_pos hf
 have hgl : ∀ x, x < ((List.replicate n false).set a true).length → ∀ y ∈ nxN nx x, y < ((List.replicate n false).set a true).length := by
  rw [List.length_set, List.length_replicate]; exact fun x hx y hy => nxN_lt hf hx hy
 have hx0 : ∀ x ∈ [0], x < ((List.replicate n false).set a true).length := by rw [List.length_set, List.length_replicate]; simpa using hn0
 have hl := hd.len
 rw [List.length_set, List.length_replicate] at hl
 refine bools_ext (by rw [List.length_set]; exact hl) fun x hx => ?_
 have hs0 : ∀ z, ((List.replicate n false).set a true).getD z false = true ↔ z = a := by
  intro z
  rw [getD_set, List.length_replicate, replicate_getD]
  by_cases hz : z = a
  ·simp [hz, ha]
  ·simp [hz]
 have hset : (S.set a false).getD x false = if x = a then false else S.getD x false := by
  simp only [List.getD_eq_getElem?_getD, List.getElem?_set]
  by_cases hxa : a = x
  ·subst hxa; simp [hl, ha]
  ·have : ¬ x = a := fun h => hxa h.symm
   simp [hxa, this]
 rw [hset]
 by_cases hxa : x = a
 ·subst hxa
  rw [if_pos rfl, rchB_self]
 ·rw [if_neg hxa, Bool.eq_iff_iff, hd.seen hgl hx0 x, hs0, rchB_iff]
  simp only [hxa, false_or, List.mem_singleton, exists_eq_left]
  exact ⟨fun hr => hr.mono fun z hz => (hs0 z).2 (by omega), fun hr => hr.mono fun z hz => by have := (hs0 z).1 hz; omega⟩
theorem without0 {n : Nat} {g : Nat → List Nat} : ((List.replicate n false).set 0 true).set 0 false = (List.range n).map (rchB g (0 : Nat)) := by
 refine bools_ext (by simp) fun x hx => ?_
 have : rchB g ((0 : Nat) : Int) x = false := by
  cases hc : rchB g ((0 : Nat) : Int) x with
  | false => rfl
  | true => exact absurd rfl (rchB_iff.1 hc).fst
 rw [this, List.set_set]
 have : (List.replicate n false).set 0 false = List.replicate n false := by
  cases n with
  | zero => rfl
  | succ n => rfl
 rw [this, replicate_getD]
set_option maxHeartbeats 4000000 in
theorem l11Doms_c {p rg : Int} {fl : Bool} {rows : List (List C)} {nx : Nat → List Int} (hg : GF rows nx) (hf : fitsB rows.length nx = true)
  (hK : ∀ H', Upd H H' [] → K (.c (.sl false 1 (ovOf rows.length (nxN nx) rows.length))) H') :
  ACall prog fn_l11Doms [.ag [.int .i64 p, .int .i64 rg, .sl fl 5 rows]] H K := by
 have hn := hg.n
 have hn0 := fitsB_pos hf
 have hyb : ∀ (y : Nat) l a b d, C.sl fl 5 rows = .vsl l a b d → l ≠ y := by intro y l a b d h; cases h
 refine acall_un ?_
 refine call_sound hmix m_l11Doms ?_
 refine s_reg ?_
 simp only [go_sem, reduceIte, reduceEqDiff, reduceAdd, reduceLeDiff, reduceLT, reduceCtorEq]
 refine s_reg ?_
 simp only [go_sem, reduceIte, reduceEqDiff, reduceAdd, reduceLeDiff, reduceLT, reduceCtorEq]
 intro _
 refine s_reg ?_
 simp only [go_sem, reduceIte, reduceEqDiff, reduceAdd, reduceLeDiff, reduceLT, reduceCtorEq]
 refine s_reg ?_
 simp only [go_sem, boolsOf_replicate, reduceIte, reduceEqDiff, reduceAdd, reduceLeDiff, reduceLT, reduceCtorEq]
 refine ⟨by simp only [LIM]; omega, fun al hal H1 h1 => ?_⟩
 have kn : Kn H H1 [] ([(al, .vec 1 (boolsOf (List.replicate rows.length false)))] ++ []) := (Kn.start0 H).al hal h1
 simp only [go_sem, s_l11Doms_i0, reduceIte, reduceEqDiff, reduceAdd, reduceLeDiff, reduceLT, reduceCtorEq]
 refine s_reg ?_
 simp only [go_sem, reduceIte, reduceEqDiff, reduceAdd, reduceLeDiff, reduceLT, reduceCtorEq]
 refine l10Visit_c (F := H1) hf (by omega) (hg.grd H1 fl) (hyb al) rows.length 0 (List.replicate rows.length false) [] (.sl true 1 []) [] H1 _ (by simp) (by omega) hn0 (replicate_getD _ _) kn.mid (.nil 1) (by simp) fun S o oc Lg0 H2 hd k2 _ => ?_
 have kn : Kn H H2 [] [(al, .vec 1 (boolsOf (inL rows.length (nxN nx))))] := by
  have := (kn.comp k2 rfl).drop
  rw [all_of_dfs hf hd] at this
  exact this
 refine c_as ?_
 refine s_reg ?_
 simp only [go_sem, reduceIte, reduceEqDiff, reduceAdd, reduceLeDiff, reduceLT, reduceCtorEq]
 refine c_seq (c_block (c_loop (fun m e1 H1 => ∃ (ys : List Nat) (oc : C) (Lg : List (Nat × Obj)), m = rows.length - ys.length ∧ ys.length ≤ rows.length ∧ Gr Lg 1 (ysR rows.length ys) oc ∧
  Kn H H1 [] (([(al, .vec 1 (boolsOf (inL rows.length (nxN nx))))] ++ ysL rows.length (nxN nx) ys) ++ Lg) ∧
  e1 = [(1, .c (.pp [.int .i64 p, .int .i64 rg, .sl fl 5 rows])), (3, .c (.int .i64 rows.length)), (4, .c oc), (5, .c (.vsl al 1 0 rows.length)), (6, .c (.int .i64 ys.length))]) rows.length ?_ ?_))
 ·exact ⟨[], _, [], by simp, by simp, .nil 1, kn, rfl⟩
 ·rintro m e1 H3 ⟨ys, oc, Lg, hm, hi, hgr, kn, rfl⟩
  have hoc := hgr.isOw
  refine c_as ?_
  refine s_reg ?_
  simp only [go_sem, hoc, reduceIte, reduceEqDiff, reduceAdd, reduceLeDiff, reduceLT, reduceCtorEq]
  refine c_seq (c_cond rfl ?_ ?_)
  ·intro hc
   have hlt : ys.length < rows.length := by simpa using hc
   have hlti : ys.length < (inL rows.length (nxN nx)).length := by rw [inL_len]; exact hlt
   refine c_skip ?_
   simp only [go_sem]
   refine c_cut (fun e2 H4 => ∃ (oc : C) (Lg : List (Nat × Obj)) (y : Nat), Gr Lg 1 (ysR rows.length (ys ++ [y])) oc ∧
    Kn H H4 [] (([(al, .vec 1 (boolsOf (inL rows.length (nxN nx))))] ++ ysL rows.length (nxN nx) (ys ++ [y])) ++ Lg) ∧
    lk 1 e2 = .c (.pp [.int .i64 p, .int .i64 rg, .sl fl 5 rows]) ∧ lk 3 e2 = .c (.int .i64 rows.length) ∧ lk 4 e2 = .c oc ∧ lk 5 e2 = .c (.vsl al 1 0 rows.length) ∧ lk 6 e2 = .c (.int .i64 ys.length)) ?_ ?_
   ·intro Q hnr _ _
    refine c_block ?_
    refine s_reg ?_
    simp only [go_sem, hoc, boolsOf_replicate, reduceIte, reduceEqDiff, reduceAdd, reduceLeDiff, reduceLT, reduceCtorEq]
    refine ⟨by simp only [LIM]; omega, fun y2 hy2 H4 h4 => ?_⟩
    have kn : Kn H H4 [] ([(y2, .vec 1 (boolsOf (List.replicate rows.length false)))] ++ ([(al, .vec 1 (boolsOf (inL rows.length (nxN nx))))] ++ (ysL rows.length (nxN nx) ys ++ Lg))) :=
     (kn.al hy2 h4).perm (perm_of_add fun f hf h0 hc hp => by simp only [hf]; omega)
    have hy := kn.l 0 rfl
    have hr0 : ys.length < (List.replicate rows.length false).length := by rw [List.length_replicate]; exact hlt
    simp only [go_sem, s_l11Doms_i1, reduceIte, reduceEqDiff, reduceAdd, reduceLeDiff, reduceLT, reduceCtorEq]
    refine s_reg ?_
    have htk0 : ∀ (S : List Bool), S.length = rows.length → (boolsOf S).take rows.length = boolsOf S := fun S h => List.take_of_length_le (by rw [boolsOf_len]; omega)
    simp only [go_sem, hoc, hy, hlt, boolsOf_len, List.length_replicate, boolsOf_getD _ _ hr0, boolsOf_set, Nat.zero_add, Nat.le_refl, reduceIte, reduceEqDiff, reduceAdd, reduceLeDiff, reduceLT, reduceCtorEq]
    intro H5 h5
    have kn : Kn H H5 [] ([(y2, .vec 1 (boolsOf ((List.replicate rows.length false).set ys.length true)))] ++ ([(al, .vec 1 (boolsOf (inL rows.length (nxN nx))))] ++ (ysL rows.length (nxN nx) ys ++ Lg))) := kn.stL 0 rfl h5
    refine c_as ?_
    refine s_reg ?_
    simp only [go_sem, hoc, reduceIte, reduceEqDiff, reduceAdd, reduceLeDiff, reduceLT, reduceCtorEq]
    have rest : ∀ (e : Env) (H6 : Heap), lk 1 e = .c (.pp [.int .i64 p, .int .i64 rg, .sl fl 5 rows]) → lk 3 e = .c (.int .i64 rows.length) → lk 4 e = .c oc → lk 5 e = .c (.vsl al 1 0 rows.length) → lk 6 e = .c (.int .i64 ys.length) → lk 7 e = .c (.vsl y2 1 0 rows.length) →
      Kn H H6 [] ([(y2, .vec 1 (boolsOf ((List.range rows.length).map (rchB (nxN nx) ys.length))))] ++ ([(al, .vec 1 (boolsOf (inL rows.length (nxN nx))))] ++ (ysL rows.length (nxN nx) ys ++ Lg))) →
      codeT prog s_l11Doms_11 Q e H6 := by
     intro e H6 l1 l3 l4 l5 l6 l7 kn
     refine s_reg ?_
     simp only [go_sem, l1, l3, l4, l5, l6, l7, boolsOf_replicate, reduceIte, reduceEqDiff, reduceAdd, reduceLeDiff, reduceLT, reduceCtorEq]
     refine ⟨by simp only [LIM]; omega, fun y3 hy3 H7 h7 => ?_⟩
     have kn : Kn H H7 [] ([(y3, .vec 1 (boolsOf (List.replicate rows.length false)))] ++ ([(y2, .vec 1 (boolsOf ((List.range rows.length).map (rchB (nxN nx) ys.length))))] ++ ([(al, .vec 1 (boolsOf (inL rows.length (nxN nx))))] ++ (ysL rows.length (nxN nx) ys ++ Lg)))) :=
      (kn.al hy3 h7).perm (perm_of_add fun f hf h0 hc hp => by simp only [hf]; omega)
     simp only [go_sem, s_l11Doms_i4, l1, l3, l4, l5, l6, l7, reduceIte, reduceEqDiff, reduceAdd, reduceLeDiff, reduceLT, reduceCtorEq]
     refine c_as ?_
     refine s_reg ?_
     simp only [go_sem, hoc, reduceIte, reduceEqDiff, reduceAdd, reduceLeDiff, reduceLT, reduceCtorEq]
     refine c_seq (c_block (c_loop (fun m e1 H1 => ∃ b : Nat, m = rows.length - b ∧ b ≤ rows.length ∧
      Kn H H1 [] ([(y3, .vec 1 (boolsOf ((List.range b).map (domB (nxN nx) ys.length) ++ List.replicate (rows.length - b) false)))] ++ ([(y2, .vec 1 (boolsOf ((List.range rows.length).map (rchB (nxN nx) ys.length))))] ++ ([(al, .vec 1 (boolsOf (inL rows.length (nxN nx))))] ++ (ysL rows.length (nxN nx) ys ++ Lg)))) ∧
      e1 = [(1, .c (.pp [.int .i64 p, .int .i64 rg, .sl fl 5 rows])), (3, .c (.int .i64 rows.length)), (4, .c oc), (5, .c (.vsl al 1 0 rows.length)), (6, .c (.int .i64 ys.length)), (7, .c (.vsl y2 1 0 rows.length)), (8, .c (.vsl y3 1 0 rows.length)), (9, .c (.int .i64 b))]) rows.length ?_ ?_))
     ·exact ⟨0, by omega, by omega, by simpa using kn, rfl⟩
     ·rintro m2 e1 H8 ⟨b, hm2, hb, kn, rfl⟩
      have hy3 := kn.l 0 rfl
      have hy2 := kn.l 1 rfl
      have hal := kn.l 2 rfl
      have hyl : ((List.range b).map (domB (nxN nx) ys.length) ++ List.replicate (rows.length - b) false).length = rows.length := by simp; omega
      refine c_as ?_
      refine s_reg ?_
      simp only [go_sem, hoc, reduceIte, reduceEqDiff, reduceAdd, reduceLeDiff, reduceLT, reduceCtorEq]
      refine c_seq (c_cond rfl ?_ ?_)
      ·intro hc2
       have hbl : b < rows.length := by simpa using hc2
       have hbi : b < (inL rows.length (nxN nx)).length := by rw [inL_len]; exact hbl
       have hbr : b < ((List.range rows.length).map (rchB (nxN nx) ys.length)).length := by simpa using hbl
       have hby : b < ((List.range b).map (domB (nxN nx) ys.length) ++ List.replicate (rows.length - b) false).length := by rw [hyl]; exact hbl
       have t1 := htk0 (inL rows.length (nxN nx)) inL_len
       have t2 := htk0 ((List.range rows.length).map (rchB (nxN nx) ys.length)) (by simp)
       have t3 := htk0 _ hyl
       refine c_skip ?_
       simp only [go_sem]
       refine c_seq (c_block ?_)
       refine c_reg ?_
       simp only [go_sem, hoc, hy3, hy2, hal, hbl, hlt, t1, t2, t3, boolsOf_len, hyl, inL_len, List.length_map, List.length_range, boolsOf_getD _ _ hlti, inL_getD hlt, boolsOf_getD _ _ hbi, inL_getD hbl, boolsOf_getD _ _ hbr, map_range_getD _ _ hbl, boolsOf_getD _ _ hby, boolsOf_set, Nat.zero_add, Nat.le_refl, reduceIte, reduceEqDiff, reduceAdd, reduceLeDiff, reduceLT, reduceCtorEq]
       intro H9 h9
       have kn := kn.stL 0 rfl h9
       refine c_reg ?_
       simp only [go_sem, hoc, X.next, reduceIte, reduceEqDiff, reduceAdd, reduceLeDiff, reduceLT, reduceCtorEq]
       refine ⟨inR64 (by omega) (by omega), rows.length - (b + 1), by omega, b + 1, rfl, by omega, ?_, rfl⟩
       rw [← map_take_set _ _ hbl]
       have : domB (nxN nx) ys.length b = (bif (bif rchB (nxN nx) (-1) ys.length then rchB (nxN nx) (-1) b else false) then !rchB (nxN nx) (↑ys.length) b else false) := by
        simp only [domB]
        cases rchB (nxN nx) (-1) ys.length <;> cases rchB (nxN nx) (-1) b <;> rfl
       rw [this]
       exact kn
      ·intro hc2
       have hbe : b = rows.length := by have : ¬ b < rows.length := (by simpa using hc2); omega
       subst hbe
       refine c_exit ?_
       simp only [go_sem, X.next]
       refine c_reg ?_
       simp only [go_sem, hoc, reduceIte, reduceEqDiff, reduceAdd, reduceLeDiff, reduceLT, reduceCtorEq]
       have kn : Kn H H8 [] (([(al, .vec 1 (boolsOf (inL rows.length (nxN nx))))] ++ ysL rows.length (nxN nx) (ys ++ [y3])) ++ Lg) := by
        have hrow : (List.range rows.length).map (domB (nxN nx) ys.length) ++ List.replicate (rows.length - rows.length) false = domRow rows.length (nxN nx) ys.length := by simp [domRow]
        rw [hrow] at kn
        have := kn.perm (L' := (([(al, .vec 1 (boolsOf (inL rows.length (nxN nx))))] ++ ysL rows.length (nxN nx) (ys ++ [y3])) ++ Lg) ++ [(y2, .vec 1 (boolsOf ((List.range rows.length).map (rchB (nxN nx) ys.length))))]) (perm_of_add fun f hf h0 hc hp => by simp only [ysL_snoc, hf]; omega)
        exact this.drop
       refine kn.growR (new := [[.vsl y3 1 0 rows.length]]) hgr (.mk' _ _ _ _) (by simp [Go.AE.noOw, C.isOw]) (by simp only [ysR_len, LIM, List.length_cons, List.length_nil]; omega) fun t Lg' H9 hgr ht kn => ?_
       simp only [go_sem, s_l11Doms_i8, ht, reduceIte, reduceEqDiff, reduceAdd, reduceLeDiff, reduceLT, reduceCtorEq]
       refine hnr _ _ ⟨t, Lg', y3, ?_, kn, rfl, rfl, rfl, rfl, rfl⟩
       rw [ysR_snoc]; exact hgr
    refine c_seq (c_cond rfl ?_ ?_)
    ·intro ha
     have ha0 : ys.length ≠ 0 := by simpa using ha
     refine s_reg ?_
     simp only [go_sem, hoc, reduceIte, reduceEqDiff, reduceAdd, reduceLeDiff, reduceLT, reduceCtorEq]
     refine l10Visit_c (F := H5) hf (by omega) (hg.grd H5 fl) (hyb y2) rows.length 0 ((List.replicate rows.length false).set ys.length true) [] (.sl true 1 []) [] H5 _ (by simp) (by omega) hn0 (by rw [getD_set, replicate_getD, if_neg (by omega)]) kn.mid (.nil 1) (by simp) fun S o oc' Lg0 H6 hd k2 _ => ?_
     have hSl := hd.len
     rw [List.length_set, List.length_replicate] at hSl
     have kn : Kn H H6 [] ([(y2, .vec 1 (boolsOf S))] ++ ([(al, .vec 1 (boolsOf (inL rows.length (nxN nx))))] ++ (ysL rows.length (nxN nx) ys ++ Lg))) := (kn.comp k2 rfl).drop
     have hy := kn.l 0 rfl
     have hyS : ys.length < S.length := by omega
     refine c_reg ?_
     simp only [go_sem, hoc, hy, hlt, boolsOf_len, hSl, htk0 S hSl, boolsOf_getD _ _ hyS, boolsOf_set, Nat.zero_add, Nat.le_refl, reduceIte, reduceEqDiff, reduceAdd, reduceLeDiff, reduceLT, reduceCtorEq]
     intro H7 h7
     have kn := kn.stL 0 rfl h7
     refine rest _ H7 rfl rfl rfl rfl rfl rfl ?_
     rw [← without_of_dfs hf hlt hd]; exact kn
    ·intro ha
     have ha0 : ys.length = 0 := by simpa using ha
     have hy := kn.l 0 rfl
     have hyS : ys.length < ((List.replicate rows.length false).set ys.length true).length := by simpa using hlt
     refine c_reg ?_
     simp only [go_sem, hoc, hy, hlt, boolsOf_len, List.length_set, List.length_replicate, boolsOf_getD _ _ hyS, boolsOf_set, Nat.zero_add, Nat.le_refl, reduceIte, reduceEqDiff, reduceAdd, reduceLeDiff, reduceLT, reduceCtorEq]
     intro H7 h7
     have kn := kn.stL 0 rfl h7
     refine rest _ H7 rfl rfl rfl rfl rfl rfl ?_
     have := without0 (n := rows.length) (g := nxN nx)
     rw [ha0] at kn ⊢
     rw [← this]; exact kn
   ·rintro e2 H4 ⟨oc2, Lg2, y, hgr, kn, l1, l3, l4, l5, l6⟩
    refine c_reg ?_
    simp only [go_sem, X.next, l1, l3, l4, l5, l6, reduceIte, reduceEqDiff, reduceAdd, reduceLeDiff, reduceLT, reduceCtorEq]
    exact ⟨inR64 (by omega) (by omega), rows.length - (ys.length + 1), by omega, ys ++ [y], oc2, Lg2, by simp, by simp; omega, hgr, kn, by simp⟩
  ·intro hc
   have hge : ys.length = rows.length := by have : ¬ ys.length < rows.length := (by simpa using hc); omega
   refine c_exit ?_
   simp only [go_sem, X.next]
   refine s_reg ?_
   simp only [go_sem, hoc, reduceIte, reduceEqDiff, reduceAdd, reduceLeDiff, reduceLT, reduceCtorEq]
   refine c_ret ?_
   simp only [go_sem, endQ, retT, r_l11Doms, List.mem_singleton, forall_eq, RS.op, hoc, reduceIte, reduceEqDiff, reduceAdd, reduceLeDiff, reduceLT, reduceCtorEq]
   have hfr := ys_frz' (H := H3) (S := un H) (n := rows.length) (g := nxN nx) ys (fun q hq => ⟨(kn.get q (by simp [hq])).1, un_free (kn.loc q (by simp [hq]))⟩)
   rw [hge] at hfr
   exact ⟨_, .c _ _ (hgr.frzR kn hfr), hK _ kn.fin⟩
end Go.AE.Y

namespace Go.AE.Y
open Go.Proofs.Tryz
variable {H H0 : Heap} {K : V → Heap → Prop} {E B Lg : List (Nat × Obj)}
set_option maxHeartbeats 2000000 in
theorem l17Heads_c {p rg : Int} {fl : Bool} {rows : List (List C)} {nx : Nat → List Int} (hg : GF rows nx) (hf : fitsB rows.length nx = true)
  (hK : ∀ fl' H', Upd H H' [] → K (.c (.sl fl' 1 (natsOf (headL rows.length (nxN nx))))) H') :
  ACall prog fn_l17Heads [.ag [.int .i64 p, .int .i64 rg, .sl fl 5 rows], .c (.sl false 1 (ovOf rows.length (nxN nx) rows.length))] H K := by
 have hn := hg.n
 refine acall_un ?_
 refine call_sound hmix m_l17Heads ?_
 refine s_reg ?_
 simp only [go_sem, reduceIte, reduceEqDiff, reduceAdd, reduceLeDiff, reduceLT, reduceCtorEq]
 refine s_reg ?_
 simp only [go_sem, reduceIte, reduceEqDiff, reduceAdd, reduceLeDiff, reduceLT, reduceCtorEq]
 refine c_as ?_
 refine s_reg ?_
 simp only [go_sem, reduceIte, reduceEqDiff, reduceAdd, reduceLeDiff, reduceLT, reduceCtorEq]
 refine c_seq (c_block (c_loop (fun m e1 H1 => ∃ (h : Nat) (fo : Bool), m = rows.length - h ∧ h ≤ rows.length ∧ Kn H H1 [] [] ∧
  e1 = [(1, .c (.sl false 1 (ovOf rows.length (nxN nx) rows.length))), (2, .c (.pp [.int .i64 p, .int .i64 rg, .sl fl 5 rows])), (5, .c (.sl fo 1 (natsOf ((List.range h).filter (headB rows.length (nxN nx)))))), (6, .c (.int .i64 h))]) rows.length ?_ ?_))
 ·exact ⟨0, true, by omega, by omega, Kn.start0 H, rfl⟩
 ·rintro m e1 H1 ⟨h, fo, hm, hi, kn, rfl⟩
  refine c_as ?_
  refine s_reg ?_
  simp only [go_sem, reduceIte, reduceEqDiff, reduceAdd, reduceLeDiff, reduceLT, reduceCtorEq]
  intro _
  refine c_seq (c_cond rfl ?_ ?_)
  ·intro hc
   have hlt : h < rows.length := by simpa using hc
   have hpl := predL_len rows.length (nxN nx) h
   refine c_skip ?_
   simp only [go_sem]
   refine c_cut (fun e2 H2 => ∃ (fo : Bool), Kn H H2 [] [] ∧ lk 1 e2 = .c (.sl false 1 (ovOf rows.length (nxN nx) rows.length)) ∧ lk 2 e2 = .c (.pp [.int .i64 p, .int .i64 rg, .sl fl 5 rows]) ∧
    lk 5 e2 = .c (.sl fo 1 (natsOf ((List.range (h + 1)).filter (headB rows.length (nxN nx))))) ∧ lk 6 e2 = .c (.int .i64 h)) ?_ ?_
   ·intro Q hnr _ _
    refine c_block ?_
    refine s_reg ?_
    simp only [go_sem, reduceIte, reduceEqDiff, reduceAdd, reduceLeDiff, reduceLT, reduceCtorEq]
    refine l7Preds_c (b := (h : Int)) (hg.grd H1 fl).s rfl hg.x fun H2 hu => ?_
    have kn := kn.call0 hu
    rw [predsOf_nat hf]
    simp only [go_sem, s_l17Heads_i0, reduceIte, reduceEqDiff, reduceAdd, reduceLeDiff, reduceLT, reduceCtorEq]
    refine s_reg ?_
    simp only [go_sem, reduceIte, reduceEqDiff, reduceAdd, reduceLeDiff, reduceLT, reduceCtorEq]
    refine c_block (c_loop (fun m e1 H1 => ∃ (i : Nat) (fo : Bool), m = (predL rows.length (nxN nx) h).length - i ∧ i ≤ (predL rows.length (nxN nx) h).length ∧ Kn H H1 [] [] ∧
     e1 = [(1, .c (.sl false 1 (ovOf rows.length (nxN nx) rows.length))), (2, .c (.pp [.int .i64 p, .int .i64 rg, .sl fl 5 rows])),
      (5, .c (.sl fo 1 (natsOf ((List.range h).filter (headB rows.length (nxN nx)) ++ if ((predL rows.length (nxN nx) h).take i).any (domB (nxN nx) h) then [h] else [])))), (6, .c (.int .i64 h)),
      (7, .c (.sl false 1 (natsOf (predL rows.length (nxN nx) h)))), (8, .c (.int .i64 i))]) (predL rows.length (nxN nx) h).length ?_ ?_)
    ·exact ⟨0, fo, by omega, by omega, kn, by simp; rfl⟩
    ·rintro m2 e1 H3 ⟨i, fo2, hm2, hi2, kn, rfl⟩
     refine c_as ?_
     refine s_reg ?_
     simp only [go_sem, natsOf_len, reduceIte, reduceEqDiff, reduceAdd, reduceLeDiff, reduceLT, reduceCtorEq]
     intro _
     refine c_seq (c_cond rfl ?_ ?_)
     ·intro hc2
      have hlt2 : i < (predL rows.length (nxN nx) h).length := by simpa using hc2
      have hgd : (predL rows.length (nxN nx) h).getD i 0 = (predL rows.length (nxN nx) h)[i] := by simp [List.getD_eq_getElem?_getD, hlt2]
      have hql := (predL_mem.1 (List.getElem_mem hlt2)).1
      rw [← hgd] at hql
      have hqd : (predL rows.length (nxN nx) h).getD i 0 < (domRow rows.length (nxN nx) h).length := by rw [domRow_len]; exact hql
      have htk : (predL rows.length (nxN nx) h).take (i + 1) = (predL rows.length (nxN nx) h).take i ++ [(predL rows.length (nxN nx) h).getD i 0] := by
       rw [List.take_succ_eq_append_getElem hlt2, hgd]
      have hany : ((predL rows.length (nxN nx) h).take (i + 1)).any (domB (nxN nx) h) = (((predL rows.length (nxN nx) h).take i).any (domB (nxN nx) h) || domB (nxN nx) h ((predL rows.length (nxN nx) h).getD i 0)) := by
       rw [htk, List.any_append]; simp
      refine c_skip ?_
      simp only [go_sem]
      refine c_seq (c_block ?_)
      refine s_dreg ?_
      simp only [go_sem, hlt, hlt2, hql, ovOf_len, ovOf_getD hlt, natsOf_len, natsOf_getD _ _ hlt2, boolsOf_len, domRow_len, boolsOf_getD _ _ hqd, domRow_getD hql, reduceIte, reduceEqDiff, reduceAdd, reduceLeDiff, reduceLT, reduceCtorEq]
      refine c_cond rfl ?_ ?_
      ·intro hd
       refine c_reg ?_
       simp only [go_sem, reduceIte, reduceEqDiff, reduceAdd, reduceLeDiff, reduceLT, reduceCtorEq]
       have hfl := List.length_filter_le (headB rows.length (nxN nx)) (List.range h)
       rw [List.length_range] at hfl
       have hfasc : ((List.range h).filter (headB rows.length (nxN nx))).Pairwise (· < ·) := List.Pairwise.filter _ List.pairwise_lt_range
       have hflt : ∀ x ∈ (List.range h).filter (headB rows.length (nxN nx)), x < h := fun x hx => List.mem_range.1 (List.mem_filter.1 hx).1
       have hasc1 : ((List.range h).filter (headB rows.length (nxN nx)) ++ [h]).Pairwise (· < ·) := by
        rw [List.pairwise_append]
        exact ⟨hfasc, by simp, fun a ha b hb => by simp at hb; subst hb; exact hflt a ha⟩
       have hasc0 : ∀ c : Bool, ((List.range h).filter (headB rows.length (nxN nx)) ++ if c then [h] else []).Pairwise (· < ·) := by
        intro c; cases c
        ·simpa using hfasc
        ·exact hasc1
       have hascI : ∀ l : List Nat, l.Pairwise (· < ·) → (l.map Int.ofNat).Pairwise (· < ·) := fun l hl => by
        rw [List.pairwise_map]; exact hl.imp (fun h => by simpa using h)
       refine l7Insert_c (ns := ((List.range h).filter (headB rows.length (nxN nx)) ++ if ((predL rows.length (nxN nx) h).take i).any (domB (nxN nx) h) then [h] else []).map Int.ofNat) (hascI _ (hasc0 _)) (by rw [List.length_map, List.length_append]; split <;> simp <;> omega) fun fl' ns' H4 hu h1 h2 h3 => ?_
       have kn := kn.call0 hu
       have he : ns' = ((List.range h).filter (headB rows.length (nxN nx)) ++ [h]).map Int.ofNat := by
        refine asc_ints h1 hasc1 fun x => ?_
        rw [h2]
        simp only [List.map_append, List.mem_append, List.mem_map, List.mem_singleton]
        constructor
        ·rintro (rfl | ⟨y, hy, rfl⟩ | ⟨y, hy, rfl⟩)
         ·exact ⟨h, .inr rfl, rfl⟩
         ·exact ⟨y, .inl hy, rfl⟩
         ·split at hy
          ·simp at hy; subst hy; exact ⟨y, .inr rfl, rfl⟩
          ·simp at hy
        ·rintro ⟨y, hy | rfl, rfl⟩
         ·exact .inr (.inl ⟨y, hy, rfl⟩)
         ·exact .inl rfl
       simp only [go_sem, s_l17Heads_i1, reduceIte, reduceEqDiff, reduceAdd, reduceLeDiff, reduceLT, reduceCtorEq]
       refine c_reg ?_
       simp only [go_sem, X.next, reduceIte, reduceEqDiff, reduceAdd, reduceLeDiff, reduceLT, reduceCtorEq]
       refine ⟨inR64 (by omega) (by omega), (predL rows.length (nxN nx) h).length - (i + 1), by omega, i + 1, fl', rfl, by omega, kn, ?_⟩
       rw [hany, hd, Bool.or_true, if_pos rfl, he]; rfl
      ·intro hd
       refine c_skip ?_
       simp only [go_sem]
       refine c_reg ?_
       simp only [go_sem, X.next, reduceIte, reduceEqDiff, reduceAdd, reduceLeDiff, reduceLT, reduceCtorEq]
       refine ⟨inR64 (by omega) (by omega), (predL rows.length (nxN nx) h).length - (i + 1), by omega, i + 1, fo2, rfl, by omega, kn, ?_⟩
       rw [hany, hd, Bool.or_false]; rfl
     ·intro hc2
      have hge : (predL rows.length (nxN nx) h).length ≤ i := by simpa using hc2
      refine c_exit ?_
      simp only [go_sem, X.next]
      refine hnr _ _ ⟨fo2, kn, rfl, rfl, ?_, rfl⟩
      rw [List.take_of_length_le hge, headF_succ]
      rfl
   ·rintro e2 H2 ⟨fo2, kn, l1, l2, l5, l6⟩
    refine c_reg ?_
    simp only [go_sem, X.next, l1, l2, l5, l6, reduceIte, reduceEqDiff, reduceAdd, reduceLeDiff, reduceLT, reduceCtorEq]
    exact ⟨inR64 (by omega) (by omega), rows.length - (h + 1), by omega, h + 1, fo2, rfl, by omega, kn, by rw [List.range_succ]; rfl⟩
  ·intro hc
   have hge : h = rows.length := by have : ¬ h < rows.length := (by simpa using hc); omega
   subst hge
   refine c_exit ?_
   simp only [go_sem, X.next]
   refine s_reg ?_
   simp only [go_sem, reduceIte, reduceEqDiff, reduceAdd, reduceLeDiff, reduceLT, reduceCtorEq]
   refine c_ret ?_
   simp only [go_sem, endQ, retT, r_l17Heads, List.mem_singleton, forall_eq, RS.op, reduceIte, reduceEqDiff, reduceAdd, reduceLeDiff, reduceLT, reduceCtorEq]
   exact ⟨_, .c _ _ (frzc_sl (noOw_mem (natsOf_noOw _))), hK _ _ kn.fin⟩
theorem sp_LoopHeads_c {p rg : Int} {fl : Bool} {rows : List (List C)} {nx : Nat → List Int} (hg : GF rows nx)
  (hK : ∀ fl' H', Upd H H' [] → K (.c (.sl fl' 1 (natsOf (headsL rows.length nx)))) H') :
  ACall prog fn_sp_LoopHeads [.ag [.int .i64 p, .int .i64 rg, .sl fl 5 rows]] H K := by
 refine acall_un ?_
 refine call_sound hmix m_sp_LoopHeads ?_
 refine s_reg ?_
 simp only [go_sem, reduceIte, reduceEqDiff, reduceAdd, reduceLeDiff, reduceLT, reduceCtorEq]
 refine c_as ?_
 refine s_reg ?_
 simp only [go_sem, reduceIte, reduceEqDiff, reduceAdd, reduceLeDiff, reduceLT, reduceCtorEq]
 refine l10Fits_c (hg.grd _ _) ?_
 simp only [go_sem, s_sp_LoopHeads_i0, reduceIte, reduceEqDiff, reduceAdd, reduceLeDiff, reduceLT, reduceCtorEq]
 refine c_seq (c_cond rfl (fun hc => ?_) (fun hc => ?_))
 ·have hf := not_t hc
  refine s_reg ?_
  simp only [go_sem, reduceIte, reduceEqDiff, reduceAdd, reduceLeDiff, reduceLT, reduceCtorEq]
  refine c_ret ?_
  simp only [go_sem, endQ, retT, r_sp_LoopHeads, List.mem_singleton, forall_eq, RS.op, reduceIte, reduceEqDiff, reduceAdd, reduceLeDiff, reduceLT, reduceCtorEq]
  have := hK false _ (Kn.start0 H).fin
  rw [headsL_not hf] at this
  exact ⟨_, .c _ _ FrzR.nil.sl, this⟩
 ·have hf := not_f hc
  refine c_skip ?_
  simp only [go_sem]
  refine s_dreg ?_
  simp only [go_sem, reduceIte, reduceEqDiff, reduceAdd, reduceLeDiff, reduceLT, reduceCtorEq]
  refine l11Doms_c hg hf fun H1 hu => ?_
  have kn := (Kn.start0 H).call0 hu
  simp only [go_sem, s_sp_LoopHeads_i3, reduceIte, reduceEqDiff, reduceAdd, reduceLeDiff, reduceLT, reduceCtorEq]
  refine l17Heads_c hg hf fun fl' H2 hu => ?_
  have kn := kn.call0 hu
  simp only [go_sem, s_sp_LoopHeads_i2, reduceIte, reduceEqDiff, reduceAdd, reduceLeDiff, reduceLT, reduceCtorEq]
  refine c_ret ?_
  simp only [go_sem, endQ, retT, r_sp_LoopHeads, List.mem_singleton, forall_eq, RS.op, reduceIte, reduceEqDiff, reduceAdd, reduceLeDiff, reduceLT, reduceCtorEq]
  have := hK false _ kn.fin
  rw [headsL_fits hf] at this
  exact ⟨_, .c _ _ (frzc_sl (noOw_mem (natsOf_noOw _))), this⟩
def Gq (Lg : List (Nat × Obj)) (W : List Nat) (c : C) : Prop :=
 (c = .sl true 1 [] ∧ W = [] ∧ Lg = []) ∨ ∃ z st R, c = .vsl z 1 st W.length ∧ Lg = [(z, .vec 1 R)] ∧ (R.drop st).take W.length = natsOf W ∧ st + W.length ≤ R.length
theorem Gq.isOw {W : List Nat} {c : C} (h : Gq Lg W c) : c.isOw = false := by rcases h with ⟨rfl, _⟩ | ⟨z, st, R, rfl, _⟩ <;> rfl
theorem Gq.elemSz {W : List Nat} {c : C} (h : Gq Lg W c) : c.elemSz = 1 := by rcases h with ⟨rfl, _⟩ | ⟨z, st, R, rfl, _⟩ <;> rfl
theorem Gq.lenC {W : List Nat} {c : C} (h : Gq Lg W c) : lenC c = W.length := by rcases h with ⟨rfl, rfl, _⟩ | ⟨z, st, R, rfl, _⟩ <;> rfl
theorem Gq.get {W : List Nat} {c : C} (h : Gq Lg W c) (kn : Kn H0 H E (B ++ Lg)) : okSl H c ∧ rowsOf H c = natsOf W := by
 rcases h with ⟨rfl, rfl, _⟩ | ⟨z, st, R, rfl, rfl, h1, h2⟩
 ·exact ⟨trivial, rfl⟩
 ·have hz : H z = .vec 1 R := (kn.get (z, .vec 1 R) (by simp)).1
  exact ⟨by simp [okSl, hz, h2], by simp [rowsOf, hz, h1]⟩
theorem Gr.gq {W : List Nat} {c : C} (h : Gr Lg 1 (natsOf W) c) : Gq Lg W c := by
 rcases h with ⟨h1, h2, h3⟩ | ⟨y, h1, h2⟩
 ·refine .inl ⟨h1, ?_, h3⟩
  have := congrArg List.length h2
  rw [natsOf_len] at this
  exact List.length_eq_zero_iff.1 this
 ·exact .inr ⟨y, 0, natsOf W, by rw [h1, natsOf_len], h2, by rw [List.drop_zero, List.take_of_length_le (by rw [natsOf_len]; exact Nat.le_refl _)], by rw [natsOf_len]; omega⟩
theorem Kn.growQ {K : V → Heap → Prop} {W new : List Nat} {b c : C} (kn : Kn H0 H E (B ++ Lg)) (hc : Gq Lg W c) (hb : Slc H 1 (natsOf new) b) (h2 : W.length + new.length ≤ LIM)
  (h : ∀ t Lg' H', Gq Lg' (W ++ new) t → t.isOw = false → Kn H0 H' E (B ++ Lg') → K (.c t) H') : appQ H 1 c b K := by
 rcases hc with ⟨rfl, rfl, rfl⟩ | ⟨z, st, R, rfl, rfl, h3, h4⟩
 ·refine Kn.growR (new := natsOf new) kn (.nil 1) hb (natsOf_noOw _) (by simp only [natsOf_len, List.length_nil] at *; omega) fun t Lg' H' hg ht k => h t Lg' H' (Gr.gq ?_) ht k
  simpa using hg
 ·have hz : H z = .vec 1 R := (kn.get (z, .vec 1 R) (by simp)).1
  refine ⟨hb.ok, hb.sz, ?_⟩
  simp only [hz, hb.rows, hb.len, h3, natsOf_len]
  refine ⟨trivial, trivial, h4, natsOf_noOw _, h2, fun l' hl' H' hH' => ?_⟩
  have hg : Gr [(l', .vec 1 (natsOf (W ++ new)))] 1 (natsOf (W ++ new)) (.vsl l' 1 0 (W.length + new.length)) := .mk _ _ _ (by simp [natsOf_len])
  refine h _ _ H' (Gr.gq hg) rfl ?_
  have := kn.ap B.length (y := z) (o := .vec 1 R) (by simp) hl' hH'
  rw [natsOf_app]
  simpa using this
set_option maxHeartbeats 4000000 in
theorem l17Body_c {p rg : Int} {fl : Bool} {rows : List (List C)} {nx : Nat → List Int} {h : Nat} (hg : GF rows nx) (hf : fitsB rows.length nx = true) (hh : h < rows.length)
  (hK : ∀ fl' H', Upd H H' [] → K (.c (.sl fl' 1 (natsOf (bodyL rows.length (nxN nx) h)))) H') :
  ACall prog fn_l17Body [.ag [.int .i64 p, .int .i64 rg, .sl fl 5 rows], .c (.sl false 1 (ovOf rows.length (nxN nx) rows.length)), .c (.int .i64 h)] H K := by
 have hn := hg.n
 have hpl := predL_len rows.length (nxN nx) h
 refine acall_un ?_
 refine call_sound hmix m_l17Body ?_
 refine s_reg ?_
 simp only [go_sem, reduceIte, reduceEqDiff, reduceAdd, reduceLeDiff, reduceLT, reduceCtorEq]
 refine s_reg ?_
 simp only [go_sem, reduceIte, reduceEqDiff, reduceAdd, reduceLeDiff, reduceLT, reduceCtorEq]
 refine s_reg ?_
 simp only [go_sem, reduceIte, reduceEqDiff, reduceAdd, reduceLeDiff, reduceLT, reduceCtorEq]
 refine s_reg ?_
 simp only [go_sem, reduceIte, reduceEqDiff, reduceAdd, reduceLeDiff, reduceLT, reduceCtorEq]
 refine l7Preds_c (b := (h : Int)) (hg.grd H fl).s rfl hg.x fun H2 hu => ?_
 have kn := (Kn.start0 H).call0 hu
 rw [predsOf_nat hf]
 simp only [go_sem, s_l17Body_i0, reduceIte, reduceEqDiff, reduceAdd, reduceLeDiff, reduceLT, reduceCtorEq]
 refine c_as ?_
 refine s_reg ?_
 simp only [go_sem, reduceIte, reduceEqDiff, reduceAdd, reduceLeDiff, reduceLT, reduceCtorEq]
 refine c_seq (c_block (c_loop (fun m e1 H1 => ∃ (i : Nat) (wc : C) (Lg : List (Nat × Obj)), m = (predL rows.length (nxN nx) h).length - i ∧ i ≤ (predL rows.length (nxN nx) h).length ∧ Gq Lg (((predL rows.length (nxN nx) h).take i).filter (domB (nxN nx) h)) wc ∧ Kn H H1 [] ([] ++ Lg) ∧
  e1 = [(1, .c (.sl false 1 (ovOf rows.length (nxN nx) rows.length))), (2, .c (.int .i64 h)), (3, .c (.pp [.int .i64 p, .int .i64 rg, .sl fl 5 rows])), (7, .c (.sl true 1 [[.int .i64 h]])), (8, .c wc),
   (9, .c (.sl false 1 (natsOf (predL rows.length (nxN nx) h)))), (10, .c (.int .i64 i))]) (predL rows.length (nxN nx) h).length ?_ ?_))
 ·exact ⟨0, _, [], by omega, by omega, .inl ⟨rfl, rfl, rfl⟩, kn, rfl⟩
 ·rintro m e1 H3 ⟨i, wc, Lg, hm, hi, hq, kn, rfl⟩
  have hqw := hq.isOw
  refine c_as ?_
  refine s_reg ?_
  simp only [go_sem, hqw, natsOf_len, reduceIte, reduceEqDiff, reduceAdd, reduceLeDiff, reduceLT, reduceCtorEq]
  intro _
  refine c_seq (c_cond rfl ?_ ?_)
  ·intro hc
   have hlt2 : i < (predL rows.length (nxN nx) h).length := by simpa using hc
   have hgd : (predL rows.length (nxN nx) h).getD i 0 = (predL rows.length (nxN nx) h)[i] := by simp [List.getD_eq_getElem?_getD, hlt2]
   have hql := (predL_mem.1 (List.getElem_mem hlt2)).1
   rw [← hgd] at hql
   have hqd : (predL rows.length (nxN nx) h).getD i 0 < (domRow rows.length (nxN nx) h).length := by rw [domRow_len]; exact hql
   have htk : (predL rows.length (nxN nx) h).take (i + 1) = (predL rows.length (nxN nx) h).take i ++ [(predL rows.length (nxN nx) h).getD i 0] := by
    rw [List.take_succ_eq_append_getElem hlt2, hgd]
   have hfl := List.length_filter_le (domB (nxN nx) h) ((predL rows.length (nxN nx) h).take i)
   rw [List.length_take] at hfl
   refine c_skip ?_
   simp only [go_sem]
   refine c_seq (c_block ?_)
   refine s_dreg ?_
   simp only [go_sem, hqw, hh, hlt2, hql, ovOf_len, ovOf_getD hh, natsOf_len, natsOf_getD _ _ hlt2, boolsOf_len, domRow_len, boolsOf_getD _ _ hqd, domRow_getD hql, reduceIte, reduceEqDiff, reduceAdd, reduceLeDiff, reduceLT, reduceCtorEq]
   refine c_cond rfl ?_ ?_
   ·intro hd
    refine c_reg ?_
    simp only [go_sem, hqw, hlt2, natsOf_len, natsOf_getD _ _ hlt2, reduceIte, reduceEqDiff, reduceAdd, reduceLeDiff, reduceLT, reduceCtorEq]
    refine Kn.growQ kn hq (new := [(predL rows.length (nxN nx) h).getD i 0]) (.mk' _ _ _ _) (by simp only [LIM, List.length_cons, List.length_nil]; omega) fun t Lg' H4 hq ht kn => ?_
    simp only [go_sem, s_l17Body_i1, ht, reduceIte, reduceEqDiff, reduceAdd, reduceLeDiff, reduceLT, reduceCtorEq]
    refine c_reg ?_
    simp only [go_sem, ht, X.next, reduceIte, reduceEqDiff, reduceAdd, reduceLeDiff, reduceLT, reduceCtorEq]
    refine ⟨inR64 (by omega) (by omega), (predL rows.length (nxN nx) h).length - (i + 1), by omega, i + 1, t, Lg', rfl, by omega, ?_, kn, rfl⟩
    rw [htk, List.filter_append, List.filter_cons, hd]; exact hq
   ·intro hd
    refine c_skip ?_
    simp only [go_sem]
    refine c_reg ?_
    simp only [go_sem, hqw, X.next, reduceIte, reduceEqDiff, reduceAdd, reduceLeDiff, reduceLT, reduceCtorEq]
    refine ⟨inR64 (by omega) (by omega), (predL rows.length (nxN nx) h).length - (i + 1), by omega, i + 1, wc, Lg, rfl, by omega, ?_, kn, rfl⟩
    rw [htk, List.filter_append, List.filter_cons, hd]; simpa using hq
  ·intro hc
   have hge : (predL rows.length (nxN nx) h).length ≤ i := by simpa using hc
   rw [List.take_of_length_le hge] at hq
   have hfl := List.length_filter_le (domB (nxN nx) h) (predL rows.length (nxN nx) h)
   refine c_exit ?_
   simp only [go_sem, X.next]
   refine c_seq (c_block (c_loop (fun m e1 H1 => ∃ (O W : List Nat) (fo : Bool) (wc : C) (Lg : List (Nat × Obj)), m = (rows.length - O.length) * (rows.length + 1) + W.length ∧ W.length ≤ rows.length * O.length ∧ BWk rows.length (nxN nx) h O W ∧ Gq Lg W wc ∧ Kn H H1 [] ([] ++ Lg) ∧
    lk 1 e1 = .c (.sl false 1 (ovOf rows.length (nxN nx) rows.length)) ∧ lk 3 e1 = .c (.pp [.int .i64 p, .int .i64 rg, .sl fl 5 rows]) ∧ lk 7 e1 = .c (.sl fo 1 (natsOf O)) ∧ lk 8 e1 = .c wc) ((rows.length - 1) * (rows.length + 1) + ((predL rows.length (nxN nx) h).filter (domB (nxN nx) h)).length) ?_ ?_))
   ·exact ⟨[h], _, true, wc, Lg, rfl, by simp; omega, .init, hq, kn, rfl, rfl, rfl, rfl⟩
   ·rintro m2 e1 H4 ⟨O, W, fo, wc, Lg, hm2, hWl, hbw, hq, kn, l1, l3, l7, l8⟩
    have hqw := hq.isOw
    obtain ⟨hqok, hqr⟩ := hq.get kn
    have hqok := eq_true hqok
    have hql := hq.lenC
    have hqs := hq.elemSz
    have hOl := hbw.len hh
    have hWO : rows.length * O.length ≤ 10000 * 10000 := Nat.mul_le_mul (by omega) (by omega)
    refine c_as ?_
    refine s_reg ?_
    simp only [go_sem, l1, l3, l7, l8, hqw, hqok, hql, reduceIte, reduceEqDiff, reduceAdd, reduceLeDiff, reduceLT, reduceCtorEq]
    intro _
    refine c_seq (c_cond rfl ?_ ?_)
    ·intro hc2
     obtain ⟨b, W, rfl⟩ : ∃ b W', W = b :: W' := by
      cases W with
      | nil => simp at hc2
      | cons b W => exact ⟨b, W, rfl⟩
     have hb := hbw.r b List.mem_cons_self
     have hr0 : (natsOf (b :: W)).getD 0 [] = [.int .i64 (b : Int)] := rfl
     have hbd : b < (domRow rows.length (nxN nx) b).length := by rw [domRow_len]; exact hb
     obtain ⟨wc2, hsli, hq2⟩ : ∃ wc2, sliC (some 1) none wc = wc2 ∧ Gq Lg W wc2 := by
      refine ⟨_, rfl, ?_⟩
      rcases hq with ⟨_, h, _⟩ | ⟨z, st, R, rfl, rfl, h3, h4⟩
      ·simp at h
      ·refine .inr ⟨z, st + 1, R, ?_, rfl, ?_, by simp at h4; omega⟩
       ·simp [sliC]
       ·have := congrArg (List.drop 1) h3
        rw [← List.drop_drop, List.drop_take] at *
        simp only [List.length_cons, Nat.add_sub_cancel] at this
        rw [this]; rfl
     refine c_skip ?_
     simp only [go_sem]
     refine c_block ?_
     refine s_reg ?_
     simp only [go_sem, l1, l3, l7, l8, hqw, hqok, hqr, hqs, hql, hr0, Nat.succ_pos, List.length_cons, reduceIte, reduceEqDiff, reduceAdd, reduceLeDiff, reduceLT, reduceCtorEq]
     refine ⟨by omega, ?_⟩
     refine s_reg ?_
     simp only [go_sem, hqw, hqok, hqs, hql, hsli, List.length_cons, reduceIte, reduceEqDiff, reduceAdd, reduceLeDiff, reduceLT, reduceCtorEq]
     refine ⟨⟨by omega, by omega, by omega⟩, ?_⟩
     have hqw2 := hq2.isOw
     refine c_as ?_
     refine s_reg ?_
     simp only [go_sem, hqw2, reduceIte, reduceEqDiff, reduceAdd, reduceLeDiff, reduceLT, reduceCtorEq]
     refine l10At_c (ns := O.map Int.ofNat) (.mk' _ _ _ _) rfl fun r hr => ?_
     have hrn := hr.nonneg
     have hcon : (O.map Int.ofNat).contains (b : Int) = decide (b ∈ O) := by
      by_cases hbO : b ∈ O
      ·have h1 : (O.map Int.ofNat).contains (b : Int) = true := List.contains_iff_mem.2 (List.mem_map.2 ⟨b, hbO, rfl⟩)
       rw [h1]; simp [hbO]
      ·cases hcc : (O.map Int.ofNat).contains (b : Int) with
       | false => simp [hbO]
       | true =>
        obtain ⟨y, hy, he⟩ := List.mem_map.1 (List.contains_iff_mem.1 hcc)
        have : y = b := Int.ofNat.inj he
        exact absurd (this ▸ hy) hbO
     rw [hcon] at hrn
     have hrn' : decide (r ≥ 0) = decide (b ∈ O) := hrn
     simp only [go_sem, s_l17Body_i6, hqw2, hb, hrn, ovOf_len, ovOf_getD hb, boolsOf_len, domRow_len, boolsOf_getD _ _ hbd, domRow_getD hb, domB_self, reduceIte, reduceEqDiff, reduceAdd, reduceLeDiff, reduceLT, reduceCtorEq]
     refine c_seq (c_cond rfl ?_ ?_)
     ·intro hc3
      have hsk : b ∈ O ∨ rchB (nxN nx) (-1) b = false := by
       by_cases hbO : b ∈ O
       ·exact .inl hbO
       ·simp only [hbO, decide_false, cond_false] at hc3; exact .inr (not_t hc3)
      refine c_exit ?_
      simp only [go_sem, X.next, reduceIte, reduceEqDiff, reduceAdd, reduceLeDiff, reduceLT, reduceCtorEq]
      refine ⟨(rows.length - O.length) * (rows.length + 1) + W.length, ?_, O, W, fo, wc2, Lg, rfl, ?_, hbw.skip hsk, hq2, kn, rfl, rfl⟩
      ·simp only [List.length_cons] at hm2; omega
      ·simp only [List.length_cons] at hWl; omega
     ·intro hc3
      have hgo : b ∉ O ∧ rchB (nxN nx) (-1) b = true := by
       by_cases hbO : b ∈ O
       ·simp [hbO] at hc3
       ·simp only [hbO, decide_false, cond_false] at hc3; exact ⟨hbO, not_f hc3⟩
      refine c_skip ?_
      simp only [go_sem]
      refine s_reg ?_
      simp only [go_sem, hqw2, reduceIte, reduceEqDiff, reduceAdd, reduceLeDiff, reduceLT, reduceCtorEq]
      have hOI : (O.map Int.ofNat).Pairwise (· < ·) := by rw [List.pairwise_map]; exact hbw.asc.imp (fun h => by simpa using h)
      refine l7Insert_c (ns := O.map Int.ofNat) hOI (by rw [List.length_map]; omega) fun fl' ns' H5 hu h1 h2 h3 => ?_
      have kn := kn.call0 hu
      obtain ⟨O', hO', ha1, ha2⟩ : ∃ O' : List Nat, ns' = O'.map Int.ofNat ∧ O'.Pairwise (· < ·) ∧ ∀ x, x ∈ O' ↔ x = b ∨ x ∈ O := by
       have e : ∀ x, x ∈ (List.range rows.length).filter (fun y => decide (y = b ∨ y ∈ O)) ↔ x = b ∨ x ∈ O := fun x => by
        rw [List.mem_filter, List.mem_range, decide_eq_true_eq]
        refine ⟨fun h => h.2, fun h => ⟨?_, h⟩⟩
        rcases h with rfl | h
        ·exact hb
        ·exact (hbw.o x h).lt hh
       refine ⟨(List.range rows.length).filter (fun y => decide (y = b ∨ y ∈ O)), ?_, List.Pairwise.filter _ List.pairwise_lt_range, e⟩
       refine asc_ints h1 (List.Pairwise.filter _ List.pairwise_lt_range) fun x => ?_
       rw [h2]
       constructor
       ·rintro (rfl | hx)
        ·exact ⟨b, (e b).2 (.inl rfl), rfl⟩
        ·obtain ⟨y, hy, rfl⟩ := List.mem_map.1 hx
         exact ⟨y, (e y).2 (.inr hy), rfl⟩
       ·rintro ⟨y, hy, rfl⟩
        rcases (e y).1 hy with rfl | hy
        ·exact .inl rfl
        ·exact .inr (List.mem_map.2 ⟨y, hy, rfl⟩)
      have hbw' := hbw.go hgo.1 hgo.2 ha1 ha2
      have hOl' := hbw'.len hh
      have hOlen : O'.length = O.length + 1 := by
       have e1 := asc_eq (l := O') (k := O') ha1 ha1 (fun _ => Iff.rfl)
       have hp : O'.Perm (b :: O) := by
        refine (List.perm_ext_iff_of_nodup (ha1.imp (fun h => Nat.ne_of_lt h)) ?_).2 fun x => by rw [ha2]; simp
        rw [List.nodup_cons]
        exact ⟨hgo.1, hbw.asc.imp (fun h => Nat.ne_of_lt h)⟩
       simpa using hp.length_eq
      have hpb := predL_len rows.length (nxN nx) b
      have hWO' : rows.length * O'.length ≤ 10000 * 10000 := Nat.mul_le_mul (by omega) (by omega)
      have hmul : rows.length * O'.length = rows.length * O.length + rows.length := by rw [hOlen, Nat.mul_add, Nat.mul_one]
      simp only [go_sem, s_l17Body_i7, hqw2, reduceIte, reduceEqDiff, reduceAdd, reduceLeDiff, reduceLT, reduceCtorEq]
      refine c_reg ?_
      simp only [go_sem, hqw2, reduceIte, reduceEqDiff, reduceAdd, reduceLeDiff, reduceLT, reduceCtorEq]
      refine l7Preds_c (b := (b : Int)) (hg.grd H5 fl).s rfl hg.x fun H6 hu => ?_
      have kn := kn.call0 hu
      rw [predsOf_nat hf]
      simp only [go_sem, s_l17Body_i9, hqw2, reduceIte, reduceEqDiff, reduceAdd, reduceLeDiff, reduceLT, reduceCtorEq]
      refine Kn.growQ kn hq2 (new := predL rows.length (nxN nx) b) (.mk' _ _ _ _) (by simp only [LIM]; simp only [List.length_cons] at hWl; omega) fun t Lg' H7 hq ht kn => ?_
      simp only [go_sem, s_l17Body_i8, ht, X.next, reduceIte, reduceEqDiff, reduceAdd, reduceLeDiff, reduceLT, reduceCtorEq]
      refine ⟨(rows.length - O'.length) * (rows.length + 1) + (W ++ predL rows.length (nxN nx) b).length, ?_, O', _, fl', t, Lg', rfl, ?_, hbw', hq, kn, ?_, rfl⟩
      ·rw [List.length_append]
       simp only [List.length_cons] at hm2
       have : (rows.length - O.length) * (rows.length + 1) = (rows.length - O'.length) * (rows.length + 1) + (rows.length + 1) := by
        have : rows.length - O.length = (rows.length - O'.length) + 1 := by omega
        rw [this, Nat.add_mul, Nat.one_mul]
       omega
      ·rw [List.length_append]
       simp only [List.length_cons] at hWl
       omega
      ·rw [hO']; rfl
    ·intro hc2
     have hW0 : W = [] := by
      cases W with
      | nil => rfl
      | cons b W => simp at hc2
     subst hW0
     refine c_exit ?_
     simp only [go_sem, X.next]
     refine s_reg ?_
     simp only [go_sem, l7, reduceIte, reduceEqDiff, reduceAdd, reduceLeDiff, reduceLT, reduceCtorEq]
     refine c_ret ?_
     simp only [go_sem, endQ, retT, r_l17Body, List.mem_singleton, forall_eq, RS.op, reduceIte, reduceEqDiff, reduceAdd, reduceLeDiff, reduceLT, reduceCtorEq]
     have := hK false _ kn.fin
     rw [← hbw.fin hh] at this
     exact ⟨_, .c _ _ (frzc_sl (noOw_mem (natsOf_noOw _))), this⟩
end Go.AE.Y

namespace Go.AE.Y
open Go.Proofs.Tryz
variable {H H0 : Heap} {K : V → Heap → Prop} {E B Lg : List (Nat × Obj)}
theorem IsIx.neg {ns : List Int} {v r : Int} (h : IsIx ns v r) : decide (r < 0) = !ns.contains v := by
 rw [← h.nonneg]
 by_cases hr : r < 0
 ·have : ¬ 0 ≤ r := by omega
  simp [hr, this]
 ·have : 0 ≤ r := by omega
  simp [hr, this]
theorem sp_LoopBody_c {p rg : Int} {fl : Bool} {rows : List (List C)} {nx : Nat → List Int} {h : Int} (hg : GF rows nx)
  (hK : ∀ fl' H', Upd H H' [] → K (.c (.sl fl' 1 (natsOf (loopL rows.length nx h)))) H') :
  ACall prog fn_sp_LoopBody [.ag [.int .i64 p, .int .i64 rg, .sl fl 5 rows], .c (.int .i64 h)] H K := by
 refine acall_un ?_
 refine call_sound hmix m_sp_LoopBody ?_
 refine s_reg ?_
 simp only [go_sem, reduceIte, reduceEqDiff, reduceAdd, reduceLeDiff, reduceLT, reduceCtorEq]
 refine c_as ?_
 refine s_reg ?_
 simp only [go_sem, reduceIte, reduceEqDiff, reduceAdd, reduceLeDiff, reduceLT, reduceCtorEq]
 refine sp_LoopHeads_c hg fun fl1 H1 hu => ?_
 have kn := (Kn.start0 H).call0 hu
 simp only [go_sem, s_sp_LoopBody_i1, reduceIte, reduceEqDiff, reduceAdd, reduceLeDiff, reduceLT, reduceCtorEq]
 refine l10At_c (ns := (headsL rows.length nx).map Int.ofNat) (.mk' _ _ _ _) rfl fun r hr => ?_
 have hrn := hr.neg
 simp only [go_sem, s_sp_LoopBody_i0, hrn, reduceIte, reduceEqDiff, reduceAdd, reduceLeDiff, reduceLT, reduceCtorEq]
 refine c_seq (c_cond rfl (fun hc => ?_) (fun hc => ?_))
 ·have hc' := not_t hc
  refine s_reg ?_
  simp only [go_sem, reduceIte, reduceEqDiff, reduceAdd, reduceLeDiff, reduceLT, reduceCtorEq]
  refine c_ret ?_
  simp only [go_sem, endQ, retT, r_sp_LoopBody, List.mem_singleton, forall_eq, RS.op, reduceIte, reduceEqDiff, reduceAdd, reduceLeDiff, reduceLT, reduceCtorEq]
  have := hK false _ kn.fin
  rw [loopL_not hc'] at this
  exact ⟨_, .c _ _ FrzR.nil.sl, this⟩
 ·have hc' := not_f hc
  obtain ⟨k, rfl, hf, hk, _, hin, hl⟩ := headsL_mem hc'
  refine c_skip ?_
  simp only [go_sem]
  refine s_dreg ?_
  simp only [go_sem, reduceIte, reduceEqDiff, reduceAdd, reduceLeDiff, reduceLT, reduceCtorEq]
  refine l11Doms_c hg hf fun H2 hu => ?_
  have kn := kn.call0 hu
  simp only [go_sem, s_sp_LoopBody_i4, reduceIte, reduceEqDiff, reduceAdd, reduceLeDiff, reduceLT, reduceCtorEq]
  refine l17Body_c hg hf hk fun fl' H3 hu => ?_
  have kn := kn.call0 hu
  simp only [go_sem, s_sp_LoopBody_i3, reduceIte, reduceEqDiff, reduceAdd, reduceLeDiff, reduceLT, reduceCtorEq]
  refine c_ret ?_
  simp only [go_sem, endQ, retT, r_sp_LoopBody, List.mem_singleton, forall_eq, RS.op, reduceIte, reduceEqDiff, reduceAdd, reduceLeDiff, reduceLT, reduceCtorEq]
  have := hK false _ kn.fin
  rw [hl] at this
  exact ⟨_, .c _ _ (frzc_sl (noOw_mem (natsOf_noOw _))), this⟩
def shRow (ns : List Int) : List C := [.sl true 2 [], .sl true 4 [], .int .i64 0, .int .i64 0, .sl false 1 (intsOf ns)]
def shift (nx : Nat → List Int) (i : Nat) : List Int := (nx i).map (· + 1)
def shRows (nx : Nat → List Int) (n : Nat) : List (List C) := (List.range n).map fun i => shRow (shift nx i)
theorem shRows_len (nx : Nat → List Int) (n : Nat) : (shRows nx n).length = n := by simp [shRows]
theorem shRows_noOw (nx : Nat → List Int) (n : Nat) : ∀ r ∈ shRows nx n, noOw r = true := by intro r hr; obtain ⟨x, _, rfl⟩ := List.mem_map.1 hr; rfl
structure ShB where
 c : C
 lg : List (Nat × Obj)
def ShB.row (x : ShB) : List C := [.sl true 2 [], .sl true 4 [], .int .i64 0, .int .i64 0, x.c]
def ShOk (nx : Nat → List Int) (bs : List ShB) : Prop := ∀ i (h : i < bs.length), Gr bs[i].lg 1 (intsOf (shift nx i)) bs[i].c
theorem sh_frz {S : Nat → Bool} {nx : Nat → List Int} (bs : List ShB) : ∀ (k : Nat), (∀ i (h : i < bs.length), Gr bs[i].lg 1 (intsOf (shift nx (k + i))) bs[i].c) → (∀ p ∈ bs.flatMap ShB.lg, H p.1 = p.2 ∧ S p.1 = true) →
  FrzR H S (bs.map ShB.row) ((List.range' k bs.length).map fun i => shRow (shift nx i)) := by
 induction bs with
 | nil => intro k _ _; exact .nil
 | cons b bs ih =>
  intro k h hm
  simp only [List.length_cons, List.range'_succ, List.map_cons]
  refine .cons ?_ (ih (k + 1) (fun i hi => ?_) fun p hp => hm p (by rw [List.flatMap_cons]; exact List.mem_append_right _ hp))
  ·have h0 := h 0 (by simp)
   simp only [List.getElem_cons_zero, Nat.add_zero] at h0
   refine .cons (.same _ rfl) (.cons (.same _ rfl) (.cons (.same _ rfl) (.cons (.same _ rfl) (.cons ?_ .nil))))
   exact Gr.frzM h0 (fun p hp => hm p (by rw [List.flatMap_cons]; exact List.mem_append_left _ hp)) (FrzR.same (intsOf_noOw _))
  ·have := h (i + 1) (by simpa using hi)
   simp only [List.getElem_cons_succ] at this
   have e : k + 1 + i = k + (i + 1) := by omega
   rw [e]; exact this
set_option maxHeartbeats 4000000 in
theorem wwShift_c {bc : C} {rows : List (List C)} {nx : Nat → List Int} (hg : GRd H bc rows nx) (hn : rows.length ≤ 10000) (hx : ∀ i, i < rows.length → (nx i).length ≤ 1000 ∧ ∀ x ∈ nx i, 0 ≤ x ∧ x ≤ 10000)
  (hK : ∀ H', Upd H H' [] → K (.c (.sl false 5 (shRows nx rows.length))) H') :
  ACall prog fn_la_wwShift [.c bc] H K := by
 have how := hg.ow
 have hok := eq_true hg.s.ok
 have hlen := hg.s.len
 have hsz := hg.s.sz
 refine acall_un ?_
 refine call_sound hmix m_la_wwShift ?_
 refine s_reg ?_
 simp only [go_sem, how, reduceIte, reduceEqDiff, reduceAdd, reduceLeDiff, reduceLT, reduceCtorEq]
 refine s_reg ?_
 simp only [go_sem, how, reduceIte, reduceEqDiff, reduceAdd, reduceLeDiff, reduceLT, reduceCtorEq]
 refine c_as ?_
 refine s_reg ?_
 simp only [go_sem, how, hok, hlen, reduceIte, reduceEqDiff, reduceAdd, reduceLeDiff, reduceLT, reduceCtorEq]
 intro _
 refine c_seq (c_block (c_loop (fun m e1 H1 => ∃ (bs : List ShB) (oc : C) (Lg : List (Nat × Obj)), m = rows.length - bs.length ∧ bs.length ≤ rows.length ∧ ShOk nx bs ∧ Gr Lg 5 (bs.map ShB.row) oc ∧ Kn H H1 [] ((bs.flatMap ShB.lg) ++ Lg) ∧
  e1 = [(3, .c oc), (10, .c bc), (11, .c (.int .i64 rows.length)), (12, .c (.int .i64 bs.length))]) rows.length ?_ ?_))
 ·exact ⟨[], _, [], by simp, by simp, fun i hi => by simp at hi, .nil 5, Kn.start0 H, rfl⟩
 ·rintro m e1 H1 ⟨bs, oc, Lg, hm, hi, hbs, hgr, kn, rfl⟩
  have hoc := hgr.isOw
  have hg1 := hg.keep0 kn
  have hok1 := eq_true hg1.s.ok
  have hrw1 := hg1.s.rows
  refine s_reg ?_
  simp only [go_sem, how, hoc, reduceIte, reduceEqDiff, reduceAdd, reduceLeDiff, reduceLT, reduceCtorEq]
  refine c_seq (c_cond rfl ?_ ?_)
  ·intro hc
   have hlt : bs.length < rows.length := by simpa using hc
   obtain ⟨a1, a2, a3, a4, fl, hrow⟩ := hg.x _ hlt
   obtain ⟨o1, o2, o3, o4, _⟩ := hg.ows hlt hrow
   obtain ⟨hx1, hx2⟩ := hx _ hlt
   refine c_skip ?_
   simp only [go_sem]
   refine c_cut (fun e2 H2 => ∃ (b : ShB) (oc : C) (Lg : List (Nat × Obj)), ShOk nx (bs ++ [b]) ∧ Gr Lg 5 ((bs ++ [b]).map ShB.row) oc ∧ Kn H H2 [] (((bs ++ [b]).flatMap ShB.lg) ++ Lg) ∧
    lk 3 e2 = .c oc ∧ lk 10 e2 = .c bc ∧ lk 11 e2 = .c (.int .i64 rows.length) ∧ lk 12 e2 = .c (.int .i64 bs.length)) ?_ ?_
   ·intro Q hnr _ _
    refine c_block ?_
    refine s_reg ?_
    simp only [go_sem, how, hoc, hok1, hlen, hsz, hrw1, hlt, hrow, o1, o2, o3, o4, reduceIte, reduceEqDiff, reduceAdd, reduceLeDiff, reduceLT, reduceCtorEq]
    intro x5 hx5 H2 h2
    have kn := kn.al hx5 h2
    have kn := kn.perm (L' := [(x5, .st [.sl true 2 [], .sl true 4 [], .int .i64 0, .int .i64 0, .sl true 1 []])] ++ (bs.flatMap ShB.lg ++ Lg)) (perm_of_add fun f hf h0 hc hp => by simp only [hf]; omega)
    have hx5 := kn.l 0 rfl
    simp only [go_sem, s_la_wwShift_i0, hx5, reduceIte, reduceEqDiff, reduceAdd, reduceLeDiff, reduceLT, reduceCtorEq]
    intro H3 h3
    have kn := kn.stL 0 rfl h3
    refine s_reg ?_
    simp only [go_sem, how, hoc, reduceIte, reduceEqDiff, reduceAdd, reduceLeDiff, reduceLT, reduceCtorEq]
    intro x6 hx6 H4 h4
    have kn := kn.al hx6 h4
    have kn := kn.perm (L' := [(x6, .st [.sl true 2 [], .sl true 4 [], .int .i64 0, .int .i64 0, .sl true 1 []])] ++ ([(x5, .st [a1, a2, a3, a4, .sl fl 1 (intsOf (nx bs.length))])] ++ (bs.flatMap ShB.lg ++ Lg)))
     (by
      have : ([(x5, Obj.st [.sl true 2 [], .sl true 4 [], .int .i64 0, .int .i64 0, .sl true 1 []])] ++ (bs.flatMap ShB.lg ++ Lg)).set 0 (x5, .st [a1, a2, a3, a4, .sl fl 1 (intsOf (nx bs.length))]) = [(x5, .st [a1, a2, a3, a4, .sl fl 1 (intsOf (nx bs.length))])] ++ (bs.flatMap ShB.lg ++ Lg) := rfl
      rw [this]
      exact List.perm_append_comm)
    have hx6 := kn.l 0 rfl
    simp only [go_sem, s_la_wwShift_i1, hx6, reduceIte, reduceEqDiff, reduceAdd, reduceLeDiff, reduceLT, reduceCtorEq]
    intro H5 h5
    have kn := kn.stL 0 rfl h5
    have hx5 := kn.l 1 rfl
    refine c_as ?_
    refine s_reg ?_
    simp only [go_sem, how, hoc, hx5, intsOf_len, reduceIte, reduceEqDiff, reduceAdd, reduceLeDiff, reduceLT, reduceCtorEq]
    intro _
    refine c_seq (c_block (c_loop (fun m e1 H1 => ∃ (k : Nat) (nc : C) (Ln : List (Nat × Obj)), m = (nx bs.length).length - k ∧ k ≤ (nx bs.length).length ∧ Gr Ln 1 (intsOf (((nx bs.length).take k).map (· + 1))) nc ∧
     Kn H H1 [] (([(x6, .st [.sl true 2 [], .sl true 4 [], .int .i64 0, .int .i64 0, nc])] ++ (bs.flatMap ShB.lg ++ Lg)) ++ Ln) ∧
     e1 = [(3, .c oc), (6, .c (.ptr x6 0)), (10, .c bc), (11, .c (.int .i64 rows.length)), (12, .c (.int .i64 bs.length)), (18, .c (.sl fl 1 (intsOf (nx bs.length)))), (19, .c (.int .i64 (nx bs.length).length)), (20, .c (.int .i64 k))]) (nx bs.length).length ?_ ?_))
    ·refine ⟨0, _, [], by omega, by omega, .nil 1, ?_, rfl⟩
     have kn : Kn H H5 [] ([(x6, .st [.sl true 2 [], .sl true 4 [], .int .i64 0, .int .i64 0, .sl true 1 []])] ++ ([(x5, .st [a1, a2, a3, a4, .sl fl 1 (intsOf (nx bs.length))])] ++ (bs.flatMap ShB.lg ++ Lg))) := kn
     have := kn.perm (L' := ([(x6, .st [.sl true 2 [], .sl true 4 [], .int .i64 0, .int .i64 0, .sl true 1 []])] ++ (bs.flatMap ShB.lg ++ Lg)) ++ [(x5, .st [a1, a2, a3, a4, .sl fl 1 (intsOf (nx bs.length))])]) (perm_of_add fun f hf h0 hc hp => by simp only [hf]; omega)
     simpa using this.drop
    ·rintro m2 e1 H6 ⟨k, nc, Ln, hm2, hk, hgn, kn, rfl⟩
     have hx6 := kn.l 0 rfl
     have hnc := hgn.isOw
     refine s_reg ?_
     simp only [go_sem, how, hoc, reduceIte, reduceEqDiff, reduceAdd, reduceLeDiff, reduceLT, reduceCtorEq]
     refine c_seq (c_cond rfl ?_ ?_)
     ·intro hc2
      have hlt2 : k < (nx bs.length).length := by simpa using hc2
      have hgd : (nx bs.length).getD k 0 = (nx bs.length)[k] := by simp [List.getD_eq_getElem?_getD, hlt2]
      have hxk := hx2 _ (List.getElem_mem hlt2)
      rw [← hgd] at hxk
      refine c_skip ?_
      simp only [go_sem]
      refine c_seq (c_block ?_)
      refine s_reg ?_
      simp only [go_sem, how, hoc, hlt2, intsOf_len, intsOf_getD _ _ hlt2, reduceIte, reduceEqDiff, reduceAdd, reduceLeDiff, reduceLT, reduceCtorEq]
      refine c_reg ?_
      simp only [go_sem, how, hoc, hnc, hx6, reduceIte, reduceEqDiff, reduceAdd, reduceLeDiff, reduceLT, reduceCtorEq]
      refine ⟨inR64 (by omega) (by omega), ?_⟩
      refine kn.growR (new := intsOf [(nx bs.length).getD k 0 + 1]) hgn (.mk' _ _ _ _) (intsOf_noOw _) (by simp only [intsOf_len, List.length_map, List.length_take, LIM, List.length_cons, List.length_nil]; omega) fun t Ln' H7 hgn ht kn => ?_
      have hx6 := kn.l 0 rfl
      simp only [go_sem, s_la_wwShift_i2, hx6, ht, reduceIte, reduceEqDiff, reduceAdd, reduceLeDiff, reduceLT, reduceCtorEq]
      intro H8 h8
      have kn := kn.stL 0 rfl h8
      refine c_reg ?_
      simp only [go_sem, how, hoc, X.next, reduceIte, reduceEqDiff, reduceAdd, reduceLeDiff, reduceLT, reduceCtorEq]
      refine ⟨inR64 (by omega) (by omega), (nx bs.length).length - (k + 1), by omega, k + 1, t, Ln', rfl, by omega, ?_, kn, rfl⟩
      rw [List.take_succ_eq_append_getElem hlt2, List.map_append, ← hgd, intsOf_app]; exact hgn
     ·intro hc2
      have hge : (nx bs.length).length ≤ k := by simpa using hc2
      rw [List.take_of_length_le hge] at hgn
      have hbs' : ShOk nx (bs ++ [(⟨nc, Ln⟩ : ShB)]) := by
       intro i hi
       by_cases h : i < bs.length
       ·rw [List.getElem_append_left h]; exact hbs i h
       ·have : i = bs.length := by simp at hi; omega
        subst this
        simpa [shift] using hgn
      refine c_exit ?_
      simp only [go_sem, X.next]
      refine c_reg ?_
      simp only [go_sem, how, hoc, hnc, hx6, reduceIte, reduceEqDiff, reduceAdd, reduceLeDiff, reduceLT, reduceCtorEq]
      have kn := kn.perm (L' := ([(x6, .st [.sl true 2 [], .sl true 4 [], .int .i64 0, .int .i64 0, nc])] ++ (bs ++ [(⟨nc, Ln⟩ : ShB)]).flatMap ShB.lg) ++ Lg) (by
       rw [List.flatMap_append]
       exact perm_of_add fun f hf h0 hc hp => by simp only [hf, List.flatMap_cons, List.flatMap_nil, List.append_nil]; omega)
      refine kn.growR (new := [ShB.row ⟨nc, Ln⟩]) hgr (.mk' _ _ _ _) (by simp [ShB.row, Go.AE.noOw, isOw_sl, isOw_int, hnc]) (by simp only [LIM, List.length_map, List.length_cons, List.length_nil]; omega) fun t Lg' H7 hgr ht kn => ?_
      simp only [go_sem, s_la_wwShift_i7, how, ht, reduceIte, reduceEqDiff, reduceAdd, reduceLeDiff, reduceLT, reduceCtorEq]
      refine hnr _ _ ⟨⟨nc, Ln⟩, t, Lg', hbs', ?_, ?_, rfl, rfl, rfl, rfl⟩
      ·rw [List.map_append]; exact hgr
      ·have := kn.perm (L' := ((bs ++ [(⟨nc, Ln⟩ : ShB)]).flatMap ShB.lg ++ Lg') ++ [(x6, .st [.sl true 2 [], .sl true 4 [], .int .i64 0, .int .i64 0, nc])]) (perm_of_add fun f hf h0 hc hp => by simp only [hf]; omega)
       exact this.drop
   ·rintro e2 H2 ⟨b, oc2, Lg2, hbs, hgr, kn, l3, l10, l11, l12⟩
    refine c_reg ?_
    simp only [go_sem, how, X.next, l3, l10, l11, l12, reduceIte, reduceEqDiff, reduceAdd, reduceLeDiff, reduceLT, reduceCtorEq]
    exact ⟨inR64 (by omega) (by omega), rows.length - (bs.length + 1), by omega, bs ++ [b], oc2, Lg2, by simp, by simp; omega, hbs, hgr, kn, by simp⟩
  ·intro hc
   have hge : bs.length = rows.length := by have : ¬ bs.length < rows.length := (by simpa using hc); omega
   refine c_exit ?_
   simp only [go_sem, X.next]
   refine s_reg ?_
   simp only [go_sem, hoc, reduceIte, reduceEqDiff, reduceAdd, reduceLeDiff, reduceLT, reduceCtorEq]
   refine c_ret ?_
   simp only [go_sem, endQ, retT, r_la_wwShift, List.mem_singleton, forall_eq, RS.op, hoc, reduceIte, reduceEqDiff, reduceAdd, reduceLeDiff, reduceLT, reduceCtorEq]
   have hfr := sh_frz (H := H1) (S := un H) (nx := nx) bs 0 (fun i hi => by rw [Nat.zero_add]; exact hbs i hi) (fun q hq => ⟨(kn.get q (by simp [hq])).1, un_free (kn.loc q (by simp [hq]))⟩)
   rw [← List.range_eq_range', hge] at hfr
   exact ⟨_, .c _ _ (hgr.frzR kn hfr), hK _ kn.fin⟩
end Go.AE.Y

namespace Go.AE.Y
open Go.Proofs.Tryz
variable {H H0 : Heap} {K : V → Heap → Prop} {E B Lg : List (Nat × Obj)}
theorem frz_tup2 {S : Nat → Bool} {a b a' b' : V} (h : FrzV H S a a') (k : FrzV H S b b') : FrzV H S (.tup [a, b]) (.tup [a', b']) := by
 refine .tup _ _ rfl fun j x x' h1 h2 => ?_
 match j with
 | 0 => simp at h1 h2; subst h1; subst h2; exact h
 | 1 => simp at h1 h2; subst h1; subst h2; exact k
 | j + 2 => simp at h1
theorem CodeD.frzSame {S : Nat → Bool} (q : CodeD) : FrzV H S (.ag q.cells) (.ag q.cells) := FrzL.ag (.cons (.same _ rfl) (.cons (.same _ rfl) (.cons (.same _ rfl) .nil)))
set_option maxHeartbeats 4000000 in
theorem l17Draw_c {fl : Bool} {bs : List UInt8} (hK : ∀ (q : CodeD) (h : Int) H', Upd H H' [] → q.gd → -1 ≤ h → h ≤ 10000 → K (.tup [.ag q.cells, .c (.int .i64 h)]) H') :
  ACall prog fn_l17Draw [.c (.sl fl 1 (bytesOf bs))] H K := by
 refine acall_un ?_
 refine call_sound hmix m_l17Draw ?_
 refine s_reg ?_
 simp only [go_sem, reduceIte, reduceEqDiff, reduceAdd, reduceLeDiff, reduceLT, reduceCtorEq]
 intro x2 hx2 H1 h1
 have kn := (Kn.start0 H).al hx2 h1
 simp only [go_sem, s_l17Draw_i0, reduceIte, reduceEqDiff, reduceAdd, reduceLeDiff, reduceLT, reduceCtorEq]
 refine s_reg ?_
 simp only [go_sem, reduceIte, reduceEqDiff, reduceAdd, reduceLeDiff, reduceLT, reduceCtorEq]
 refine l30Open_c fun R H2 hR h2 => ?_
 have kn := kn.al hR h2 (R.o_ne 0)
 simp only [go_sem, s_l17Draw_i1, reduceIte, reduceEqDiff, reduceAdd, reduceLeDiff, reduceLT, reduceCtorEq]
 refine s_reg ?_
 simp only [go_sem, reduceIte, reduceEqDiff, reduceAdd, reduceLeDiff, reduceLT, reduceCtorEq]
 refine l10Code_c (kn.l 1 rfl) (by omega) fun q H3 k1 hk1 hk2 hu hq => ?_
 have kn := kn.callL 1 rfl hu (R.o_ne _)
 simp only [go_sem, s_l17Draw_i3, reduceIte, reduceEqDiff, reduceAdd, reduceLeDiff, reduceLT, reduceCtorEq]
 intro x5 hx5 H4 h4
 have kn := kn.al hx5 h4
 have hx5 := kn.l 2 rfl
 simp only [go_sem, s_l17Draw_i2, CodeD.cells, hx5, reduceIte, reduceEqDiff, reduceAdd, reduceLeDiff, reduceLT, reduceCtorEq]
 intro H5 h5
 have kn : Kn H H5 [] [(x2, .st [.int .i64 0, .int .i64 0, .sl true 5 []]), (R.l, R.o k1), (x5, .st q.cells)] := kn.stL 2 rfl h5
 refine c_as ?_
 refine s_reg ?_
 simp only [go_sem, reduceIte, reduceEqDiff, reduceAdd, reduceLeDiff, reduceLT, reduceCtorEq]
 refine c_seq (c_block (c_loop (fun m e1 H1 => ∃ (i k : Nat) (q : CodeD), m = 8 - i ∧ i ≤ 8 ∧ k ≤ 7100000 + i * 7100002 ∧ q.gd ∧
  Kn H H1 [] [(x2, .st [.int .i64 0, .int .i64 0, .sl true 5 []]), (R.l, R.o k), (x5, .st q.cells)] ∧
  e1 = [(2, .c (.ptr x2 0)), (4, .c (.ptr R.l 0)), (5, .c (.ptr x5 0)), (6, .c (.int .i64 i))]) 8 ?_ ?_))
 ·exact ⟨0, k1, q, by omega, by omega, by omega, hq, kn, rfl⟩
 ·rintro m e1 H6 ⟨i, k, q, hm, hi, hk, hq, kn, rfl⟩
  have fin : ∀ (e : Env) (H7 : Heap) (k : Nat), k ≤ 7100000 + 8 * 7100002 + 1 → lk 2 e = .c (.ptr x2 0) → lk 4 e = .c (.ptr R.l 0) → lk 5 e = .c (.ptr x5 0) → Kn H H7 [] [(x2, .st [.int .i64 0, .int .i64 0, .sl true 5 []]), (R.l, R.o k), (x5, .st q.cells)] →
    codeT prog s_l17Draw_17 (endQ r_l17Draw fun x H' => ∃ x', FrzV H' (un H) x x' ∧ K x' (H'.frz (un H))) e H7 := by
   intro e H7 k hk l2 l4 l5 kn
   have hx5 := kn.l 2 rfl
   have hb0 := hq.b0
   have hb1 := hq.b1
   refine s_dreg ?_
   simp only [go_sem, l2, l4, l5, hx5, CodeD.cells, blksOf_len, reduceIte, reduceEqDiff, reduceAdd, reduceLeDiff, reduceLT, reduceCtorEq]
   refine ⟨inR64 (by omega) (by omega), ?_⟩
   refine pick_c (kn.l 1 rfl) (by omega) fun v H8 hv hu => ?_
   have kn := kn.callL 1 rfl hu (R.o_ne _)
   have hx5 := kn.l 2 rfl
   have hx2 := kn.l 0 rfl
   rw [if_neg (by omega)] at hv
   simp only [go_sem, s_l17Draw_i16, l2, l4, l5, hx5, hx2, CodeD.cells, reduceIte, reduceEqDiff, reduceAdd, reduceLeDiff, reduceLT, reduceCtorEq]
   refine ⟨inR64 (by omega) (by omega), fun H9 h9 => ?_⟩
   have kn := kn.stL 0 rfl h9
   have hx2 := kn.l 0 rfl
   simp only [go_sem, s_l17Draw_i15, l2, reduceIte, reduceEqDiff, reduceAdd, reduceLeDiff, reduceLT, reduceCtorEq]
   refine c_ret ?_
   simp only [go_sem, endQ, retT, r_l17Draw, List.forall_mem_cons, List.not_mem_nil, RS.op, hx2, reduceIte, reduceEqDiff, reduceAdd, reduceLeDiff, reduceLT, reduceCtorEq]
   exact ⟨fun _ => trivial, _, frz_tup2 q.frzSame (.c _ _ (frzc_same rfl)), hK q _ _ kn.fin hq (by omega) (by omega)⟩
  refine c_as ?_
  refine s_reg ?_
  simp only [go_sem, reduceIte, reduceEqDiff, reduceAdd, reduceLeDiff, reduceLT, reduceCtorEq]
  refine ⟨fun hlt => ?_, fun hlt => ?_⟩
  ·have hi8 : i < 8 := by have := of_decide_eq_true hlt; omega
   refine pick_c (kn.l 1 rfl) (by omega) fun v H7 hv hu => ?_
   have kn := kn.callL 1 rfl hu (R.o_ne _)
   simp only [go_sem, s_l17Draw_i4, hlt, cond_true, reduceIte, reduceEqDiff, reduceAdd, reduceLeDiff, reduceLT, reduceCtorEq]
   refine c_seq (c_cond rfl (fun hp => ?_) (fun hp => ?_))
   ·refine c_skip ?_
    simp only [go_sem]
    refine c_cut (fun e2 H8 => ∃ (k : Nat) (q : CodeD), k ≤ 7100000 + (i + 1) * 7100002 ∧ q.gd ∧
     Kn H H8 [] [(x2, .st [.int .i64 0, .int .i64 0, .sl true 5 []]), (R.l, R.o k), (x5, .st q.cells)] ∧
     lk 2 e2 = .c (.ptr x2 0) ∧ lk 4 e2 = .c (.ptr R.l 0) ∧ lk 5 e2 = .c (.ptr x5 0) ∧ lk 6 e2 = .c (.int .i64 i)) ?_ ?_
    ·intro Q hnr hr _
     have hx5 := kn.l 2 rfl
     refine c_block ?_
     refine s_reg ?_
     simp only [go_sem, hx5, CodeD.cells, reduceIte, reduceEqDiff, reduceAdd, reduceLeDiff, reduceLT, reduceCtorEq]
     refine sp_LoopHeads_c (gf_code hq) fun fl' H8 hu => ?_
     have kn := kn.call0 hu
     simp only [go_sem, s_l17Draw_i5, reduceIte, reduceEqDiff, reduceAdd, reduceLeDiff, reduceLT, reduceCtorEq]
     refine c_as ?_
     refine s_reg ?_
     simp only [go_sem, natsOf_len, reduceIte, reduceEqDiff, reduceAdd, reduceLeDiff, reduceLT, reduceCtorEq]
     intro _
     refine c_seq (c_cond rfl (fun hc => ?_) (fun hc => ?_))
     ·have hpos : 0 < (headsL (blksOf q.blocks).length (gnx q)).length := by simpa using hc
      have hx5 := kn.l 2 rfl
      refine s_dreg ?_
      simp only [go_sem, hx5, CodeD.cells, natsOf_len, reduceIte, reduceEqDiff, reduceAdd, reduceLeDiff, reduceLT, reduceCtorEq]
      refine pick_c (kn.l 1 rfl) (by omega) fun v H9 hv hu => ?_
      have kn := kn.callL 1 rfl hu (R.o_ne _)
      have hx5 := kn.l 2 rfl
      have hx2 := kn.l 0 rfl
      rw [if_neg (by omega)] at hv
      obtain ⟨vn, rfl⟩ := Int.eq_ofNat_of_zero_le hv.1
      have hvn : vn < (headsL (blksOf q.blocks).length (gnx q)).length := by omega
      have hhd : (headsL (blksOf q.blocks).length (gnx q)).getD vn 0 < 10000 := by
       have hmem : (headsL (blksOf q.blocks).length (gnx q)).getD vn 0 ∈ headsL (blksOf q.blocks).length (gnx q) := by
        rw [List.getD_eq_getElem?_getD, List.getElem?_eq_getElem hvn]; exact List.getElem_mem hvn
       obtain ⟨k2, he, _, hlt2, _⟩ := headsL_mem (h := ((headsL (blksOf q.blocks).length (gnx q)).getD vn 0 : Nat)) (List.contains_iff_mem.2 (List.mem_map.2 ⟨_, hmem, rfl⟩))
       have hb1 := hq.b1
       rw [blksOf_len] at hlt2
       omega
      simp only [go_sem, s_l17Draw_i7, hx5, hx2, CodeD.cells, hvn, natsOf_len, natsOf_getD _ _ hvn, reduceIte, reduceEqDiff, reduceAdd, reduceLeDiff, reduceLT, reduceCtorEq]
      intro H10 h10
      have kn := kn.stL 0 rfl h10
      have hx2 := kn.l 0 rfl
      simp only [go_sem, s_l17Draw_i6, hvn, natsOf_len, natsOf_getD _ _ hvn, reduceIte, reduceEqDiff, reduceAdd, reduceLeDiff, reduceLT, reduceCtorEq]
      refine c_ret ?_
      refine hr _ _ ?_
      simp only [go_sem, X.next, endQ, retT, r_l17Draw, List.forall_mem_cons, List.not_mem_nil, RS.op, hx2, reduceIte, reduceEqDiff, reduceAdd, reduceLeDiff, reduceLT, reduceCtorEq]
      exact ⟨fun _ => trivial, _, frz_tup2 q.frzSame (.c _ _ (frzc_same rfl)), hK q _ _ kn.fin hq (by omega) (by omega)⟩
     ·refine c_skip ?_
      simp only [go_sem]
      refine c_reg ?_
      simp only [go_sem, reduceIte, reduceEqDiff, reduceAdd, reduceLeDiff, reduceLT, reduceCtorEq]
      refine l10Code_c (kn.l 1 rfl) (by omega) fun q2 H9 k2 hk3 hk4 hu hq2 => ?_
      have kn := kn.callL 1 rfl hu (R.o_ne _)
      have hx5 := kn.l 2 rfl
      simp only [go_sem, s_l17Draw_i9, CodeD.cells, hx5, reduceIte, reduceEqDiff, reduceAdd, reduceLeDiff, reduceLT, reduceCtorEq]
      intro H10 h10
      have kn : Kn H H10 [] [(x2, .st [.int .i64 0, .int .i64 0, .sl true 5 []]), (R.l, R.o k2), (x5, .st q2.cells)] := kn.stL 2 rfl h10
      exact hnr _ _ ⟨k2, q2, by omega, hq2, kn, rfl, rfl, rfl, rfl⟩
    ·rintro e2 H8 ⟨k2, q2, hk2, hq2, kn, l2, l4, l5, l6⟩
     refine c_reg ?_
     simp only [go_sem, X.next, l2, l4, l5, l6, reduceIte, reduceEqDiff, reduceAdd, reduceLeDiff, reduceLT, reduceCtorEq]
     exact ⟨inR64 (by omega) (by omega), 8 - (i + 1), by omega, i + 1, k2, q2, rfl, by omega, hk2, hq2, kn, rfl⟩
   ·refine c_exit ?_
    simp only [go_sem, X.next]
    exact fin _ _ _ (by omega) rfl rfl rfl kn
  ·simp only [go_sem, s_l17Draw_i4, hlt, cond_false, reduceIte, reduceEqDiff, reduceAdd, reduceLeDiff, reduceLT, reduceCtorEq]
   refine c_seq (c_cond rfl (fun hp => by simp at hp) (fun hp => ?_))
   refine c_exit ?_
   simp only [go_sem, X.next]
   exact fin _ _ _ (by omega) rfl rfl rfl kn
theorem DrawLoopBody_c {fl : Bool} {bs : List UInt8} (hK : ∀ (q : CodeD) (h : Int) H', Upd H H' [] → q.gd → -1 ≤ h → h ≤ 10000 → K (.tup [.ag q.cells, .c (.int .i64 h)]) H') :
  ACall prog fn_sp_DrawLoopBody [.c (.sl fl 1 (bytesOf bs))] H K := by
 refine acall_un ?_
 refine call_sound hmix m_sp_DrawLoopBody ?_
 refine s_reg ?_
 simp only [go_sem, reduceIte, reduceEqDiff, reduceAdd, reduceLeDiff, reduceLT, reduceCtorEq]
 intro x2 hx2 H1 h1
 have kn := (Kn.start0 H).al hx2 h1
 simp only [go_sem, s_sp_DrawLoopBody_i0, reduceIte, reduceEqDiff, reduceAdd, reduceLeDiff, reduceLT, reduceCtorEq]
 refine s_reg ?_
 simp only [go_sem, reduceIte, reduceEqDiff, reduceAdd, reduceLeDiff, reduceLT, reduceCtorEq]
 refine l17Draw_c fun q h H2 hu hq h1 h2 => ?_
 have kn := kn.call0 hu
 have hx2 := kn.l 0 rfl
 simp only [go_sem, s_sp_DrawLoopBody_i2, List.getD_cons_zero, List.getD_cons_succ, CodeD.cells, hx2, reduceIte, reduceEqDiff, reduceAdd, reduceLeDiff, reduceLT, reduceCtorEq]
 intro H3 h3
 have kn := kn.stL 0 rfl h3
 have hx2 := kn.l 0 rfl
 simp only [go_sem, s_sp_DrawLoopBody_i1, reduceIte, reduceEqDiff, reduceAdd, reduceLeDiff, reduceLT, reduceCtorEq]
 refine c_ret ?_
 simp only [go_sem, endQ, retT, r_sp_DrawLoopBody, List.forall_mem_cons, List.not_mem_nil, RS.op, hx2, reduceIte, reduceEqDiff, reduceAdd, reduceLeDiff, reduceLT, reduceCtorEq]
 exact ⟨fun _ => trivial, _, frz_tup2 q.frzSame (.c _ _ (frzc_same rfl)), hK q h _ kn.fin hq h1 h2⟩
end Go.AE.Y

namespace Go.AE.Y
attribute [local instance] Classical.propDecidable
def flt (nx : Nat → List Int) (L : List Int) (i : Nat) : List Int := (nx i).filter fun n => L.contains (i : Int) && L.contains n
def gy (nx : Nat → List Int) (b : Nat) : Nat → List Int
 | 0 => [(b : Int) + 1]
 | i + 1 => (nx i).map (· + 1)
variable {n h b : Nat} {nx : Nat → List Int}
theorem flt_sub {L : List Int} {i : Nat} {x : Int} (hx : x ∈ flt nx L i) : x ∈ nx i := (List.mem_filter.1 hx).1
theorem gy_fits {L : List Int} (hf : fitsB n nx = true) (hb : b < n) : fitsB (n + 1) (gy (flt nx L) b) = true := by
 have h1 : ∀ i, i < n + 1 → ∀ x ∈ gy (flt nx L) b i, 0 ≤ x ∧ x ≤ ((n + 1 : Nat) : Int) - 1 := by
  intro i hi x hx
  cases i with
  | zero =>
   simp only [gy, List.mem_singleton] at hx
   omega
  | succ i =>
   simp only [gy, List.mem_map] at hx
   obtain ⟨y, hy, rfl⟩ := hx
   have := fitsB_mem hf (by omega : i < n) (flt_sub hy)
   omega
 simp only [fitsB, Bool.and_eq_true, List.all_eq_true, List.mem_range, decide_eq_true_eq]
 exact ⟨h1, by omega⟩
theorem nat_contains {L : List Nat} {x : Nat} : (L.map Int.ofNat).contains (x : Int) = decide (x ∈ L) := by
 by_cases h : x ∈ L
 ·have h1 : (L.map Int.ofNat).contains (x : Int) = true := List.contains_iff_mem.2 (List.mem_map.2 ⟨x, h, rfl⟩)
  rw [h1]; simp [h]
 ·cases hc : (L.map Int.ofNat).contains (x : Int) with
  | false => simp [h]
  | true =>
   obtain ⟨y, hy, he⟩ := List.mem_map.1 (List.contains_iff_mem.1 hc)
   exact absurd ((Int.ofNat.inj he) ▸ hy) h
theorem gy_leads (hf : fitsB n nx = true) (hh : h < n) (hb : b ∈ bodyL n (nxN nx) h) : rchB (nxN (gy (flt nx ((bodyL n (nxN nx) h).map Int.ofNat)) b)) (-1) (h + 1) = true := by
 rw [rchB_iff]
 have hB := (bodyL_mem hh).1 hb
 have h0 : Rch (nxN (gy (flt nx ((bodyL n (nxN nx) h).map Int.ofNat)) b)) (fun z => (z : Int) = -1) 0 (b + 1) := by
  refine .step (.refl (by omega)) ?_ (by omega)
  simp only [nxN, gy, List.map_cons, List.map_nil, List.mem_singleton]
  omega
 have key : ∀ x y, Rch (fun x => (nxN nx x).filter fun y => decide (Bdy n (nxN nx) h x ∧ Bdy n (nxN nx) h y)) (fun _ => False) x y →
   Rch (nxN (gy (flt nx ((bodyL n (nxN nx) h).map Int.ofNat)) b)) (fun z => (z : Int) = -1) (x + 1) (y + 1) := by
  intro x y hr
  induction hr with
  | refl _ => exact .refl (by omega)
  | @step y z h1 h2 h3 ih =>
   obtain ⟨h4, h5⟩ := List.mem_filter.1 h2
   simp only [decide_eq_true_eq] at h5
   refine ih.step ?_ (by omega)
   obtain ⟨w, hw, hwz⟩ := List.mem_map.1 h4
   have hyn := h5.1.lt hh
   have hw0 := fitsB_mem hf hyn hw
   have hwe : w = (z : Int) := by omega
   subst hwe
   refine List.mem_map.2 ⟨(z : Int) + 1, ?_, by omega⟩
   simp only [gy, List.mem_map]
   refine ⟨(z : Int), List.mem_filter.2 ⟨hw, ?_⟩, rfl⟩
   rw [nat_contains, nat_contains]
   simp only [bodyL_mem hh, h5.1, h5.2, decide_true, Bool.and_self]
 exact h0.trans (key b h hB.leads)
theorem head_in_body (hh : h < n) {g : Nat → List Nat} : h ∈ bodyL n g h := (bodyL_mem hh).2 .head
end Go.AE.Y

namespace Go.AE.Y
open Go.Proofs.Tryz
variable {H H0 : Heap} {K : V → Heap → Prop} {E B Lg : List (Nat × Obj)}
def fltRows (nx : Nat → List Int) (L : List Int) (n : Nat) : List (List C) := (List.range n).map fun i => shRow (flt nx L i)
theorem fltRows_len (nx : Nat → List Int) (L : List Int) (n : Nat) : (fltRows nx L n).length = n := by simp [fltRows]
theorem fltRows_noOw (nx : Nat → List Int) (L : List Int) (n : Nat) : ∀ r ∈ fltRows nx L n, noOw r = true := by intro r hr; obtain ⟨x, _, rfl⟩ := List.mem_map.1 hr; rfl
theorem fltRows_succ (nx : Nat → List Int) (L : List Int) (n : Nat) : fltRows nx L (n + 1) = fltRows nx L n ++ [shRow (flt nx L n)] := by simp [fltRows, List.range_succ]
theorem flt_grd {nx : Nat → List Int} {L : List Int} {n : Nat} {c : C} (hs : Slc H 5 (fltRows nx L n) c) (how : c.isOw = false) : GRd H c (fltRows nx L n) (flt nx L) := by
 refine ⟨hs, how, fltRows_noOw _ _ _, fun i hi => ?_⟩
 rw [fltRows_len] at hi
 exact ⟨.sl true 2 [], .sl true 4 [], .int .i64 0, .int .i64 0, false, by simp [fltRows, List.getD_eq_getElem?_getD, hi, shRow]⟩
theorem filter_take_succ {l : List Int} {p : Int → Bool} {k : Nat} (h : k < l.length) : (l.take (k + 1)).filter p = (l.take k).filter p ++ if p (l.getD k 0) then [l.getD k 0] else [] := by
 have : l.getD k 0 = l[k] := by simp [List.getD_eq_getElem?_getD, h]
 rw [List.take_succ_eq_append_getElem h, List.filter_append, this]
 congr 1
 cases hp : p l[k] <;> simp [hp]
end Go.AE.Y
namespace Go.AE
open Go.AE.Y
open Go.Proofs.Tryz
variable {H H0 : Heap} {K : V → Heap → Prop} {E B Lg : List (Nat × Obj)}
theorem Kn.frzL (kn : Kn H0 H E (B ++ Lg)) : Kn H0 (H.frz fun m => (Lg.map Prod.fst).contains m) E B := by
 have hd := kn.dL
 rw [List.map_append] at hd
 obtain ⟨d1, d2, d3⟩ := List.nodup_append.1 hd
 have key : ∀ m, m ∉ Lg.map Prod.fst → (H.frz fun m => (Lg.map Prod.fst).contains m) m = H m := fun m hm => by
  have : (Lg.map Prod.fst).contains m = false := by
   cases hc : (Lg.map Prod.fst).contains m with
   | false => rfl
   | true => exact absurd (List.contains_iff_mem.1 hc) hm
  simp only [Heap.frz, this]; rfl
 refine ⟨fun p hp => ?_, kn.ext, fun p hp => kn.loc p (List.mem_append_left _ hp), kn.dE, d1, fun m hm hx => ?_⟩
 ·have hg : H p.1 = p.2 ∧ p.2 ≠ .none := kn.get p (by
   rcases List.mem_append.1 hp with h | h
   ·exact List.mem_append_left _ h
   ·exact List.mem_append_right _ (List.mem_append_left _ h))
  refine ⟨?_, hg.2⟩
  rw [key p.1 (fun hh => ?_)]; exact hg.1
  rcases List.mem_append.1 hp with h | h
  ·obtain ⟨r, hr, he⟩ := List.mem_map.1 hh
   exact kn.ext p h (he ▸ kn.loc r (List.mem_append_right _ hr))
  ·exact d3 _ (mem_fst h) _ hh rfl
 ·rw [key m (fun hh => ?_)]; exact kn.chg m hm hx
  obtain ⟨r, hr, he⟩ := List.mem_map.1 hh
  exact hm (he ▸ kn.loc r (List.mem_append_right _ hr))
end Go.AE
namespace Go.AE.Y
open Go.Proofs.Tryz
variable {H H0 : Heap} {K : V → Heap → Prop} {E B Lg : List (Nat × Obj)}
set_option maxHeartbeats 4000000 in
theorem FnLoopBody_c {bs : List UInt8} (hK : ∀ H', K (.c (.bool true)) H') : ACall prog fn_la_FnLoopBody [.c (.sl false 1 (bytesOf bs))] H K := by
 refine call_sound hmix m_la_FnLoopBody ?_
 have retT' : ∀ (e : Env) (H' : Heap), lk 2 e = .c (.bool true) → endQ r_la_FnLoopBody K .ret e H' := by
  intro e H' h2
  simp only [go_sem, endQ, retT, r_la_FnLoopBody, List.mem_singleton, forall_eq, RS.op, h2, reduceIte, reduceEqDiff, reduceAdd, reduceLeDiff, reduceLT, reduceCtorEq]
  exact hK H'
 refine s_reg ?_
 simp only [go_sem, reduceIte, reduceEqDiff, reduceAdd, reduceLeDiff, reduceLT, reduceCtorEq]
 refine c_as ?_
 refine s_reg ?_
 simp only [go_sem, bytesOf_len, reduceIte, reduceEqDiff, reduceAdd, reduceLeDiff, reduceLT, reduceCtorEq]
 intro _
 refine c_seq (c_cond rfl (fun hc => ?_) (fun hc => ?_))
 ·refine s_reg ?_
  simp only [go_sem, reduceIte, reduceEqDiff, reduceAdd, reduceLeDiff, reduceLT, reduceCtorEq]
  refine c_ret ?_
  exact retT' _ _ rfl
 refine c_skip ?_
 simp only [go_sem]
 refine s_reg ?_
 simp only [go_sem, reduceIte, reduceEqDiff, reduceAdd, reduceLeDiff, reduceLT, reduceCtorEq]
 refine DrawLoopBody_c fun q h H1 hu hq hh1 hh2 => ?_
 have kn := (Kn.start0 H).call0 hu
 have hg := gf_code hq
 simp only [go_sem, s_la_FnLoopBody_i3, List.getD_cons_zero, List.getD_cons_succ, reduceIte, reduceEqDiff, reduceAdd, reduceLeDiff, reduceLT, reduceCtorEq]
 intro x3 hx3 H2 h2
 have kn := kn.al hx3 h2
 have hx3 := kn.l 0 rfl
 simp only [go_sem, s_la_FnLoopBody_i2, CodeD.cells, hx3, reduceIte, reduceEqDiff, reduceAdd, reduceLeDiff, reduceLT, reduceCtorEq]
 intro H3 h3
 have kn : Kn H H3 [] [(x3, .st q.cells)] := kn.stL 0 rfl h3
 have hx3 := kn.l 0 rfl
 simp only [go_sem, s_la_FnLoopBody_i1, reduceIte, reduceEqDiff, reduceAdd, reduceLeDiff, reduceLT, reduceCtorEq]
 refine s_reg ?_
 simp only [go_sem, hx3, CodeD.cells, reduceIte, reduceEqDiff, reduceAdd, reduceLeDiff, reduceLT, reduceCtorEq]
 generalize hLdef : loopL (blksOf q.blocks).length (gnx q) h = L
 have hLb := hLdef
 refine LoopBody_c hg fun fl1 H4 hu => ?_
 have kn := kn.call0 hu
 have hx3 := kn.l 0 rfl
 rw [hLdef]
 simp only [go_sem, s_la_FnLoopBody_i4, reduceIte, reduceEqDiff, reduceAdd, reduceLeDiff, reduceLT, reduceCtorEq]
 refine c_as ?_
 refine s_reg ?_
 simp only [go_sem, hx3, CodeD.cells, reduceIte, reduceEqDiff, reduceAdd, reduceLeDiff, reduceLT, reduceCtorEq]
 refine sp_LoopBody_c hg fun fl2 H5 hu => ?_
 have kn := kn.call0 hu
 have hx3 := kn.l 0 rfl
 rw [hLdef]
 simp only [go_sem, s_la_FnLoopBody_i6, reduceIte, reduceEqDiff, reduceAdd, reduceLeDiff, reduceLT, reduceCtorEq]
 refine wwInts_c (ns := L.map Int.ofNat) (ms := L.map Int.ofNat) (.mk' _ _ _ _) rfl (.mk' _ _ _ _) rfl ?_
 simp only [go_sem, s_la_FnLoopBody_i5, natsOf_len, decide_true, cond_false, reduceIte, reduceEqDiff, reduceAdd, reduceLeDiff, reduceLT, reduceCtorEq]
 intro _
 refine c_seq (c_cond rfl (fun hc => ?_) (fun hc => ?_))
 ·have hL0 : L = [] := by
   have := of_decide_eq_true hc
   exact List.length_eq_zero_iff.1 (by omega)
  refine s_reg ?_
  simp only [go_sem, hx3, CodeD.cells, reduceIte, reduceEqDiff, reduceAdd, reduceLeDiff, reduceLT, reduceCtorEq]
  refine sp_LoopBody_c hg fun fl3 H6 hu => ?_
  have kn := kn.call0 hu
  have hx3 := kn.l 0 rfl
  rw [hLdef]
  simp only [go_sem, s_la_FnLoopBody_i10, reduceIte, reduceEqDiff, reduceAdd, reduceLeDiff, reduceLT, reduceCtorEq]
  refine wwInts_c (ns := L.map Int.ofNat) (ms := L.map Int.ofNat) (.mk' _ _ _ _) rfl (.mk' _ _ _ _) rfl ?_
  simp only [go_sem, s_la_FnLoopBody_i9, hx3, CodeD.cells, decide_true, reduceIte, reduceEqDiff, reduceAdd, reduceLeDiff, reduceLT, reduceCtorEq]
  refine LoopHeads_c hg fun fl4 H7 hu => ?_
  simp only [go_sem, s_la_FnLoopBody_i8, reduceIte, reduceEqDiff, reduceAdd, reduceLeDiff, reduceLT, reduceCtorEq]
  refine wwHas_c (ns := (headsL (blksOf q.blocks).length (gnx q)).map Int.ofNat) (.mk' _ _ _ _) rfl ?_
  have hno : ((headsL (blksOf q.blocks).length (gnx q)).map Int.ofNat).contains h = false := by
   cases hcc : ((headsL (blksOf q.blocks).length (gnx q)).map Int.ofNat).contains h with
   | false => rfl
   | true =>
    obtain ⟨k, rfl, hf, hk, _, _, hl⟩ := headsL_mem hcc
    have := head_in_body (g := nxN (gnx q)) hk
    rw [← hl, hLdef, hL0] at this
    simp at this
  simp only [go_sem, s_la_FnLoopBody_i7, hno, cond_true, reduceIte, reduceEqDiff, reduceAdd, reduceLeDiff, reduceLT, reduceCtorEq]
  refine c_ret ?_
  exact retT' _ _ rfl
 have hL0 : L ≠ [] := by
  have := of_decide_eq_false hc
  intro h0; subst h0; simp at this
 have hcc : ((headsL (blksOf q.blocks).length (gnx q)).map Int.ofNat).contains h = true := by
  cases hcc : ((headsL (blksOf q.blocks).length (gnx q)).map Int.ofNat).contains h with
  | true => rfl
  | false => rw [loopL_not hcc] at hLdef; exact absurd hLdef.symm hL0
 obtain ⟨k, rfl, hf, hk, _, _, hl⟩ := headsL_mem hcc
 rw [hl] at hLdef
 have hkL : k ∈ L := by rw [← hLdef]; exact head_in_body hk
 have hLn : ∀ x ∈ L, x < (blksOf q.blocks).length := fun x hx => by
  rw [← hLdef] at hx; exact ((bodyL_mem hk).1 hx).lt hk
 have hb1 := hq.b1
 rw [← blksOf_len] at hb1
 refine c_skip ?_
 simp only [go_sem]
 refine s_reg ?_
 simp only [go_sem, reduceIte, reduceEqDiff, reduceAdd, reduceLeDiff, reduceLT, reduceCtorEq]
 intro x6 hx6 H6 h6
 have kn := kn.al hx6 h6
 have hx6 := kn.l 1 rfl
 simp only [go_sem, s_la_FnLoopBody_i12, hx6, reduceIte, reduceEqDiff, reduceAdd, reduceLeDiff, reduceLT, reduceCtorEq]
 intro H7 h7
 have kn : Kn H H7 [] ([(x3, .st q.cells), (x6, .st [.int .i64 0, .int .i64 0, .sl true 5 []])] ++ []) := kn.stL 1 rfl h7
 have hx3 := kn.l 0 rfl
 refine c_as ?_
 refine s_reg ?_
 simp only [go_sem, hx3, CodeD.cells, reduceIte, reduceEqDiff, reduceAdd, reduceLeDiff, reduceLT, reduceCtorEq]
 intro _
 refine c_seq (c_block (c_loop (fun m e1 H1 => ∃ (b : Nat) (oc : C) (Lg : List (Nat × Obj)), m = (blksOf q.blocks).length - b ∧ b ≤ (blksOf q.blocks).length ∧ Gr Lg 5 (fltRows (gnx q) (L.map Int.ofNat) b) oc ∧
  Kn H H1 [] ([(x3, .st q.cells), (x6, .st [.int .i64 0, .int .i64 0, oc])] ++ Lg) ∧
  e1 = [(4, .c (.int .i64 k)), (5, .c (.sl fl1 1 (natsOf L))), (6, .c (.ptr x6 0)), (51, .c (.sl false 5 (blksOf q.blocks))), (52, .c (.int .i64 (blksOf q.blocks).length)), (53, .c (.int .i64 b))]) (blksOf q.blocks).length ?_ ?_))
 ·exact ⟨0, _, [], by omega, by omega, .nil 5, kn, rfl⟩
 ·rintro m e1 H8 ⟨b, oc, Lg, hm, hi, hgr, kn, rfl⟩
  have hx6 := kn.l 1 rfl
  have hoc := hgr.isOw
  refine s_reg ?_
  simp only [go_sem, reduceIte, reduceEqDiff, reduceAdd, reduceLeDiff, reduceLT, reduceCtorEq]
  refine c_seq (c_cond rfl ?_ ?_)
  ·intro hc
   have hlt : b < (blksOf q.blocks).length := by simpa using hc
   have hltb : b < q.blocks.length := by rw [← blksOf_len]; exact hlt
   have hnx : gnx q b = q.blocks[b].next := by simp [gnx, List.getD_eq_getElem?_getD, hltb]
   have hm1 := hg.m b hlt
   refine c_skip ?_
   simp only [go_sem]
   refine c_cut (fun e2 H9 => ∃ (oc : C) (Lg : List (Nat × Obj)), Gr Lg 5 (fltRows (gnx q) (L.map Int.ofNat) (b + 1)) oc ∧ Kn H H9 [] ([(x3, .st q.cells), (x6, .st [.int .i64 0, .int .i64 0, oc])] ++ Lg) ∧
    lk 4 e2 = .c (.int .i64 k) ∧ lk 5 e2 = .c (.sl fl1 1 (natsOf L)) ∧ lk 6 e2 = .c (.ptr x6 0) ∧ lk 51 e2 = .c (.sl false 5 (blksOf q.blocks)) ∧ lk 52 e2 = .c (.int .i64 (blksOf q.blocks).length) ∧ lk 53 e2 = .c (.int .i64 b)) ?_ ?_
   ·intro Q hnr _ _
    refine c_block ?_
    refine s_reg ?_
    simp only [go_sem, hlt, blksOf_getD _ _ hltb, BlkD.cells, reduceIte, reduceEqDiff, reduceAdd, reduceLeDiff, reduceLT, reduceCtorEq]
    intro x8 hx8 H9 h9
    have kn := kn.al hx8 h9
    have kn := kn.perm (L' := [(x8, .st [.sl true 2 [], .sl true 4 [], .int .i64 0, .int .i64 0, .sl true 1 []])] ++ ([(x3, .st q.cells), (x6, .st [.int .i64 0, .int .i64 0, oc])] ++ Lg)) List.perm_append_comm
    have hx8 := kn.l 0 rfl
    simp only [go_sem, s_la_FnLoopBody_i13, hx8, reduceIte, reduceEqDiff, reduceAdd, reduceLeDiff, reduceLT, reduceCtorEq]
    intro H10 h10
    have kn := kn.stL 0 rfl h10
    have hx8 := kn.l 0 rfl
    refine s_reg ?_
    simp only [go_sem, reduceIte, reduceEqDiff, reduceAdd, reduceLeDiff, reduceLT, reduceCtorEq]
    refine c_as ?_
    refine s_reg ?_
    simp only [go_sem, hx8, intsOf_len, ← hnx, reduceIte, reduceEqDiff, reduceAdd, reduceLeDiff, reduceLT, reduceCtorEq]
    intro _
    refine c_seq (c_block (c_loop (fun m e1 H1 => ∃ (i : Nat) (nc : C) (Ln : List (Nat × Obj)), m = (gnx q b).length - i ∧ i ≤ (gnx q b).length ∧ Gr Ln 1 (intsOf (((gnx q b).take i).filter fun n => (L.map Int.ofNat).contains (b : Int) && (L.map Int.ofNat).contains n)) nc ∧
     Kn H H1 [] ((([(x8, .st [.sl false 2 (phisOf q.blocks[b].phis), .sl false 4 (insOf q.blocks[b].ins), .int .i64 q.blocks[b].jump, .int .i64 q.blocks[b].on, .sl false 1 (intsOf (gnx q b))])] ++ [(x3, .st q.cells), (x6, .st [.int .i64 0, .int .i64 0, oc])]) ++ Lg) ++ Ln) ∧
     e1 = [(4, .c (.int .i64 k)), (5, .c (.sl fl1 1 (natsOf L))), (6, .c (.ptr x6 0)), (7, .c (.int .i64 b)), (9, .c nc), (51, .c (.sl false 5 (blksOf q.blocks))), (52, .c (.int .i64 (blksOf q.blocks).length)), (53, .c (.int .i64 b)),
      (60, .c (.sl false 1 (intsOf (gnx q b)))), (61, .c (.int .i64 (gnx q b).length)), (62, .c (.int .i64 i))]) (gnx q b).length ?_ ?_))
    ·refine ⟨0, _, [], by omega, by omega, .nil 1, ?_, rfl⟩
     rw [hnx]; simpa using kn
    ·rintro m2 e1 H11 ⟨i, nc, Ln, hm2, hi2, hgn, kn, rfl⟩
     have hnc := hgn.isOw
     refine s_reg ?_
     simp only [go_sem, hnc, reduceIte, reduceEqDiff, reduceAdd, reduceLeDiff, reduceLT, reduceCtorEq]
     refine c_seq (c_cond rfl ?_ ?_)
     ·intro hc2
      have hlt2 : i < (gnx q b).length := by simpa using hc2
      have hfs := filter_take_succ (p := fun n => (L.map Int.ofNat).contains (b : Int) && (L.map Int.ofNat).contains n) hlt2
      refine c_skip ?_
      simp only [go_sem]
      refine c_cut (fun e2 H12 => ∃ (nc : C) (Ln : List (Nat × Obj)), Gr Ln 1 (intsOf (((gnx q b).take (i + 1)).filter fun n => (L.map Int.ofNat).contains (b : Int) && (L.map Int.ofNat).contains n)) nc ∧
       Kn H H12 [] ((([(x8, .st [.sl false 2 (phisOf q.blocks[b].phis), .sl false 4 (insOf q.blocks[b].ins), .int .i64 q.blocks[b].jump, .int .i64 q.blocks[b].on, .sl false 1 (intsOf (gnx q b))])] ++ [(x3, .st q.cells), (x6, .st [.int .i64 0, .int .i64 0, oc])]) ++ Lg) ++ Ln) ∧
       lk 4 e2 = .c (.int .i64 k) ∧ lk 5 e2 = .c (.sl fl1 1 (natsOf L)) ∧ lk 6 e2 = .c (.ptr x6 0) ∧ lk 7 e2 = .c (.int .i64 b) ∧ lk 9 e2 = .c nc ∧ lk 51 e2 = .c (.sl false 5 (blksOf q.blocks)) ∧ lk 52 e2 = .c (.int .i64 (blksOf q.blocks).length) ∧ lk 53 e2 = .c (.int .i64 b) ∧
       lk 60 e2 = .c (.sl false 1 (intsOf (gnx q b))) ∧ lk 61 e2 = .c (.int .i64 (gnx q b).length) ∧ lk 62 e2 = .c (.int .i64 i)) ?_ ?_
      ·intro Q2 hnr2 _ _
       have tail : ∀ (p : Bool) (e : Env), p = ((L.map Int.ofNat).contains (b : Int) && (L.map Int.ofNat).contains ((gnx q b).getD i 0)) → lk 73 e = .c (.bool p) →
         lk 4 e = .c (.int .i64 k) → lk 5 e = .c (.sl fl1 1 (natsOf L)) → lk 6 e = .c (.ptr x6 0) → lk 7 e = .c (.int .i64 b) → lk 9 e = .c nc → lk 11 e = .c (.int .i64 ((gnx q b).getD i 0)) → lk 51 e = .c (.sl false 5 (blksOf q.blocks)) → lk 52 e = .c (.int .i64 (blksOf q.blocks).length) → lk 53 e = .c (.int .i64 b) →
         lk 60 e = .c (.sl false 1 (intsOf (gnx q b))) → lk 61 e = .c (.int .i64 (gnx q b).length) → lk 62 e = .c (.int .i64 i) → codeT prog s_la_FnLoopBody_17 Q2 e H11 := by
        intro p e hp l73 l4 l5 l6 l7 l9 l11 l51 l52 l53 l60 l61 l62
        refine c_cond l73 (fun ht => ?_) (fun ht => ?_)
        ·rw [ht] at hp
         have hfl := List.length_filter_le (fun n => (L.map Int.ofNat).contains (b : Int) && (L.map Int.ofNat).contains n) ((gnx q b).take i)
         rw [List.length_take] at hfl
         refine c_reg ?_
         simp only [go_sem, l4, l5, l6, l7, l9, l11, l51, l52, l53, l60, l61, l62, hnc, reduceIte, reduceEqDiff, reduceAdd, reduceLeDiff, reduceLT, reduceCtorEq]
         refine kn.growR (new := intsOf [(gnx q b).getD i 0]) hgn (.mk' _ _ _ _) (intsOf_noOw _) (by simp only [intsOf_len, LIM, List.length_cons, List.length_nil]; omega) fun t Ln' H12 hgn ht kn => ?_
         simp only [go_sem, s_la_FnLoopBody_i16, l4, l5, l6, l7, l9, l11, l51, l52, l53, l60, l61, l62, reduceIte, reduceEqDiff, reduceAdd, reduceLeDiff, reduceLT, reduceCtorEq]
         refine hnr2 _ _ ⟨t, Ln', ?_, kn, rfl, rfl, rfl, rfl, rfl, rfl, rfl, rfl, rfl, rfl, rfl⟩
         rw [hfs, ← hp, if_pos rfl, intsOf_app]; exact hgn
        ·rw [ht] at hp
         refine c_skip ?_
         refine hnr2 _ _ ⟨nc, Ln, ?_, kn, l4, l5, l6, l7, l9, l51, l52, l53, l60, l61, l62⟩
         rw [hfs, ← hp]; simpa using hgn
       refine c_block ?_
       refine s_reg ?_
       simp only [go_sem, hnc, hlt2, intsOf_len, intsOf_getD _ _ hlt2, reduceIte, reduceEqDiff, reduceAdd, reduceLeDiff, reduceLT, reduceCtorEq]
       refine s_reg ?_
       simp only [go_sem, hnc, reduceIte, reduceEqDiff, reduceAdd, reduceLeDiff, reduceLT, reduceCtorEq]
       refine wwHas_c (ns := L.map Int.ofNat) (.mk' _ _ _ _) rfl ?_
       simp only [go_sem, s_la_FnLoopBody_i15, hnc, reduceIte, reduceEqDiff, reduceAdd, reduceLeDiff, reduceLT, reduceCtorEq]
       refine ⟨fun hbL => ?_, fun hbL => ?_⟩
       ·refine wwHas_c (ns := L.map Int.ofNat) (.mk' _ _ _ _) rfl ?_
        simp only [go_sem, s_la_FnLoopBody_i14, hbL, hnc, cond_true, reduceIte, reduceEqDiff, reduceAdd, reduceLeDiff, reduceLT, reduceCtorEq]
        exact tail _ _ (by rw [hbL, Bool.true_and]) rfl rfl rfl rfl rfl rfl rfl rfl rfl rfl rfl rfl rfl
       ·simp only [go_sem, s_la_FnLoopBody_i14, hbL, hnc, cond_false, reduceIte, reduceEqDiff, reduceAdd, reduceLeDiff, reduceLT, reduceCtorEq]
        exact tail _ _ (by rw [hbL, Bool.false_and]) rfl rfl rfl rfl rfl rfl rfl rfl rfl rfl rfl rfl rfl
      ·rintro e2 H12 ⟨nc2, Ln2, hgn, kn, l4, l5, l6, l7, l9, l51, l52, l53, l60, l61, l62⟩
       refine c_reg ?_
       simp only [go_sem, X.next, l4, l5, l6, l7, l9, l51, l52, l53, l60, l61, l62, reduceIte, reduceEqDiff, reduceAdd, reduceLeDiff, reduceLT, reduceCtorEq]
       exact ⟨inR64 (by omega) (by omega), (gnx q b).length - (i + 1), by omega, i + 1, nc2, Ln2, rfl, by omega, hgn, kn, rfl⟩
     ·intro hc2
      have hge : (gnx q b).length ≤ i := by simpa using hc2
      rw [List.take_of_length_le hge] at hgn
      refine c_exit ?_
      simp only [go_sem, X.next]
      have hfz : FrzC H11 (fun m => (Ln.map Prod.fst).contains m) nc (.sl false 1 (intsOf (flt (gnx q) (L.map Int.ofNat) b))) :=
       Gr.frzM hgn (fun p hp => ⟨(kn.get p (by simp [hp])).1, List.contains_iff_mem.2 (mem_fst hp)⟩) (FrzR.same (intsOf_noOw _))
      refine c_gh (gstep_frz (fun m => (Ln.map Prod.fst).contains m) (fun t => ?_)) (e' := [(4, .c (.int .i64 k)), (5, .c (.sl fl1 1 (natsOf L))), (6, .c (.ptr x6 0)), (9, .c (.sl false 1 (intsOf (flt (gnx q) (L.map Int.ofNat) b)))), (51, .c (.sl false 5 (blksOf q.blocks))), (52, .c (.int .i64 (blksOf q.blocks).length)), (53, .c (.int .i64 b))]) ?_
      ·by_cases t4 : t = 4
       ·subst t4; exact .c _ _ (.same _ rfl)
       by_cases t5 : t = 5
       ·subst t5; exact .c _ _ (.same _ rfl)
       by_cases t6 : t = 6
       ·subst t6; exact .c _ _ (.same _ rfl)
       by_cases t9 : t = 9
       ·subst t9; exact .c _ _ hfz
       by_cases t51 : t = 51
       ·subst t51; exact .c _ _ (.same _ rfl)
       by_cases t52 : t = 52
       ·subst t52; exact .c _ _ (.same _ rfl)
       by_cases t53 : t = 53
       ·subst t53; exact .c _ _ (.same _ rfl)
       simp only [lk, t4, t5, t6, t9, t51, t52, t53, if_false]
       exact .unk _
      have kn := kn.frzL
      generalize (H11.frz fun m => (Ln.map Prod.fst).contains m) = H12 at *
      have hx6 := kn.l 2 rfl
      refine c_reg ?_
      simp only [go_sem, hx6, hoc, reduceIte, reduceEqDiff, reduceAdd, reduceLeDiff, reduceLT, reduceCtorEq]
      refine kn.growR (new := [shRow (flt (gnx q) (L.map Int.ofNat) b)]) hgr (.mk' _ _ _ _) (by simp [shRow, Go.AE.noOw, isOw_sl, isOw_int]) (by simp only [fltRows_len, LIM, List.length_cons, List.length_nil]; omega) fun t Lg' H13 hgr ht kn => ?_
      have hx6 := kn.l 2 rfl
      simp only [go_sem, s_la_FnLoopBody_i22, hx6, ht, reduceIte, reduceEqDiff, reduceAdd, reduceLeDiff, reduceLT, reduceCtorEq]
      intro H14 h14
      have kn : Kn H H14 [] (([(x8, .st [.sl false 2 (phisOf q.blocks[b].phis), .sl false 4 (insOf q.blocks[b].ins), .int .i64 q.blocks[b].jump, .int .i64 q.blocks[b].on, .sl false 1 (intsOf (gnx q b))])] ++ [(x3, .st q.cells), (x6, .st [.int .i64 0, .int .i64 0, t])]) ++ Lg') := kn.stL 2 rfl h14
      refine hnr _ _ ⟨t, Lg', ?_, ?_, rfl, rfl, rfl, rfl, rfl, rfl⟩
      ·rw [fltRows_succ]; exact hgr
      ·have := kn.perm (L' := ([(x3, .st q.cells), (x6, .st [.int .i64 0, .int .i64 0, t])] ++ Lg') ++ [(x8, .st [.sl false 2 (phisOf q.blocks[b].phis), .sl false 4 (insOf q.blocks[b].ins), .int .i64 q.blocks[b].jump, .int .i64 q.blocks[b].on, .sl false 1 (intsOf (gnx q b))])]) (perm_of_add fun f hf h0 hc hp => by simp only [hf]; omega)
       exact this.drop
   ·rintro e2 H9 ⟨oc2, Lg2, hgr, kn, l4, l5, l6, l51, l52, l53⟩
    refine c_reg ?_
    simp only [go_sem, X.next, l4, l5, l6, l51, l52, l53, reduceIte, reduceEqDiff, reduceAdd, reduceLeDiff, reduceLT, reduceCtorEq]
    exact ⟨inR64 (by omega) (by omega), (blksOf q.blocks).length - (b + 1), by omega, b + 1, oc2, Lg2, rfl, by omega, hgr, kn, rfl⟩
  ·intro hc
   have hge : b = (blksOf q.blocks).length := by have : ¬ b < (blksOf q.blocks).length := (by simpa using hc); omega
   subst hge
   refine c_exit ?_
   simp only [go_sem, X.next]
   have hcon : ∀ x : Nat, (L.map Int.ofNat).contains (x : Int) = decide (x ∈ L) := fun x => nat_contains
   have hLlen : L.length ≤ 160 := by
    have e := asc_range (n := (blksOf q.blocks).length) (p := fun x => decide (x ∈ L)) (by rw [← hLdef]; exact bodyL_asc) fun x => ⟨fun hx => ⟨hLn x hx, by simpa using hx⟩, fun hx => by simpa using hx.2⟩
    have := List.length_filter_le (fun x => decide (x ∈ L)) (List.range (blksOf q.blocks).length)
    rw [← e] at this
    rw [List.length_range] at this
    omega
   refine c_as ?_
   refine s_reg ?_
   simp only [go_sem, natsOf_len, reduceIte, reduceEqDiff, reduceAdd, reduceLeDiff, reduceLT, reduceCtorEq]
   intro _
   refine c_seq (c_block (c_loop (fun m e1 H1 => ∃ (i : Nat), m = L.length - i ∧ i ≤ L.length ∧ Kn H H1 [] ([(x3, .st q.cells), (x6, .st [.int .i64 0, .int .i64 0, oc])] ++ Lg) ∧
    e1 = [(4, .c (.int .i64 k)), (5, .c (.sl fl1 1 (natsOf L))), (6, .c (.ptr x6 0)), (87, .c (.sl fl1 1 (natsOf L))), (88, .c (.int .i64 L.length)), (89, .c (.int .i64 i))]) L.length ?_ ?_))
   ·exact ⟨0, by omega, by omega, kn, rfl⟩
   ·rintro m2 e1 H9 ⟨i, hm2, hi2, kn, rfl⟩
    have hx6 := kn.l 1 rfl
    refine s_reg ?_
    simp only [go_sem, reduceIte, reduceEqDiff, reduceAdd, reduceLeDiff, reduceLT, reduceCtorEq]
    refine c_seq (c_cond rfl ?_ ?_)
    ·intro hc2
     have hlt2 : i < L.length := by simpa using hc2
     have hbm : L.getD i 0 ∈ L := by rw [List.getD_eq_getElem?_getD, List.getElem?_eq_getElem hlt2]; exact List.getElem_mem hlt2
     have hbn := hLn _ hbm
     have hb' : L.getD i 0 ∈ bodyL (blksOf q.blocks).length (nxN (gnx q)) k := by rw [hLdef]; exact hbm
     have hlead := gy_leads hf hk hb'
     rw [hLdef] at hlead
     have hfit := gy_fits (L := L.map Int.ofNat) hf hbn
     refine c_skip ?_
     simp only [go_sem]
     refine c_cut (fun e2 H10 => Kn H H10 [] ([(x3, .st q.cells), (x6, .st [.int .i64 0, .int .i64 0, oc])] ++ Lg) ∧
      lk 4 e2 = .c (.int .i64 k) ∧ lk 5 e2 = .c (.sl fl1 1 (natsOf L)) ∧ lk 6 e2 = .c (.ptr x6 0) ∧ lk 87 e2 = .c (.sl fl1 1 (natsOf L)) ∧ lk 88 e2 = .c (.int .i64 L.length) ∧ lk 89 e2 = .c (.int .i64 i)) ?_ ?_
     ·intro Q hnr _ _
      refine c_block ?_
      refine s_reg ?_
      simp only [go_sem, hlt2, natsOf_len, natsOf_getD _ _ hlt2, reduceIte, reduceEqDiff, reduceAdd, reduceLeDiff, reduceLT, reduceCtorEq]
      refine s_reg ?_
      simp only [go_sem, hx6, hoc, reduceIte, reduceEqDiff, reduceAdd, reduceLeDiff, reduceLT, reduceCtorEq]
      refine ⟨inR64 (by omega) (by omega), ?_⟩
      have hgf := flt_grd (nx := gnx q) (L := L.map Int.ofNat) (n := (blksOf q.blocks).length) ⟨hgr.okSl kn, hgr.elemSz, hgr.rowsOf kn, hgr.lenC⟩ hgr.isOw
      refine wwShift_c hgf (by rw [fltRows_len]; omega) (fun j hj => ?_) fun H10 hu => ?_
      ·rw [fltRows_len] at hj
       refine ⟨Nat.le_trans (List.length_filter_le _ _) (hg.m j hj), fun x hx => ?_⟩
       have := fitsB_mem hf hj (flt_sub hx)
       omega
      have kn := kn.call0 hu
      rw [fltRows_len]
      have hnz : (blksOf q.blocks).length ≠ 0 := by omega
      have hsh0 : shRows (flt (gnx q) (L.map Int.ofNat)) (blksOf q.blocks).length ≠ [] := fun h0 => by
       have := congrArg List.length h0
       rw [shRows_len] at this
       exact hnz this
      simp only [go_sem, s_la_FnLoopBody_i31, shRows_len, reduceIte, reduceEqDiff, reduceAdd, reduceLeDiff, reduceLT, reduceCtorEq]
      refine ⟨.inr hsh0, fun r hr => shRows_noOw _ _ r hr, by simp only [LIM]; omega, fun y hy H11 h11 => ?_⟩
      have kn := kn.al hy h11
      have kn := kn.perm (L' := [(y, .vec 5 ([C.sl true 2 [], C.sl true 4 [], C.int .i64 0, C.int .i64 0, C.sl true 1 [[C.int .i64 ((L.getD i 0 : Int) + 1)]]] :: shRows (flt (gnx q) (L.map Int.ofNat)) (blksOf q.blocks).length))] ++ ([(x3, .st q.cells), (x6, .st [.int .i64 0, .int .i64 0, oc])] ++ Lg)) List.perm_append_comm
      generalize hyr : ([C.sl true 2 [], C.sl true 4 [], C.int .i64 0, C.int .i64 0, C.sl true 1 [[C.int .i64 ((L.getD i 0 : Int) + 1)]]] :: shRows (flt (gnx q) (L.map Int.ofNat)) (blksOf q.blocks).length) = yr at *
      have hyl : yr.length = (blksOf q.blocks).length + 1 := by rw [← hyr]; simp [shRows_len]
      generalize hyc : C.vsl y 5 0 (1 + (blksOf q.blocks).length) = yc
      have hyw : yc.isOw = false := by rw [← hyc]; rfl
      simp only [go_sem, s_la_FnLoopBody_i30, hyw, reduceIte, reduceEqDiff, reduceAdd, reduceLeDiff, reduceLT, reduceCtorEq]
      intro x14 hx14 H12 h12
      have kn := kn.al hx14 h12
      have kn := kn.perm (L' := [(x14, .st [.int .i64 0, .int .i64 0, .sl true 5 []])] ++ ([(y, .vec 5 yr)] ++ ([(x3, .st q.cells), (x6, .st [.int .i64 0, .int .i64 0, oc])] ++ Lg))) List.perm_append_comm
      have hx14 := kn.l 0 rfl
      simp only [go_sem, s_la_FnLoopBody_i29, hyw, hx14, reduceIte, reduceEqDiff, reduceAdd, reduceLeDiff, reduceLT, reduceCtorEq]
      intro H13 h13
      have kn := kn.stL 0 rfl h13
      have hx14 := kn.l 0 rfl
      have hy := kn.l 1 rfl
      refine s_reg ?_
      simp only [go_sem, hx14, hyw, reduceIte, reduceEqDiff, reduceAdd, reduceLeDiff, reduceLT, reduceCtorEq]
      have hgy : GRd H13 yc yr (gy (flt (gnx q) (L.map Int.ofNat)) (L.getD i 0)) := by
       refine ⟨⟨?_, ?_, ?_, ?_⟩, hyw, ?_, fun j hj => ?_⟩
       ·rw [← hyc]; simp [okSl, hy, hyl]; omega
       ·rw [← hyc]; rfl
       ·rw [← hyc]; simp only [rowsOf, hy, List.drop_zero]; exact List.take_of_length_le (by omega)
       ·rw [← hyc, hyl]; simp only [lenC]; omega
       ·rw [← hyr]
        intro r hr
        rcases List.mem_cons.1 hr with rfl | hr
        ·rfl
        ·exact shRows_noOw _ _ r hr
       ·rw [← hyr]
        cases j with
        | zero => exact ⟨_, _, _, _, true, rfl⟩
        | succ j =>
         have hj' : j < (blksOf q.blocks).length := by omega
         refine ⟨.sl true 2 [], .sl true 4 [], .int .i64 0, .int .i64 0, false, ?_⟩
         simp [List.getD_eq_getElem?_getD, shRows, hj', shRow, gy, shift]
      refine ReachedIn_c hgy (by omega) fun H14 hu => ?_
      have kn := kn.call0 hu
      rw [hyl]
      simp only [go_sem, s_la_FnLoopBody_i33, reduceIte, reduceEqDiff, reduceAdd, reduceLeDiff, reduceLT, reduceCtorEq]
      refine ⟨inR64 (by omega) (by omega), ?_⟩
      refine wwHas_c (ns := (reachL ((blksOf q.blocks).length + 1) (gy (flt (gnx q) (L.map Int.ofNat)) (L.getD i 0))).map Int.ofNat) (.mk' _ _ _ _) rfl ?_
      have hyes : ((reachL ((blksOf q.blocks).length + 1) (gy (flt (gnx q) (L.map Int.ofNat)) (L.getD i 0))).map Int.ofNat).contains ((k : Int) + 1) = true := by
       have := nat_contains (L := reachL ((blksOf q.blocks).length + 1) (gy (flt (gnx q) (L.map Int.ofNat)) (L.getD i 0))) (x := k + 1)
       rw [show (((k + 1 : Nat)) : Int) = (k : Int) + 1 from rfl] at this
       rw [this]
       simp only [reachL, hfit, if_pos, decide_eq_true_eq]
       exact List.mem_filter.2 ⟨List.mem_range.2 (by omega), hlead⟩
      simp only [go_sem, s_la_FnLoopBody_i32, hyes, reduceIte, reduceEqDiff, reduceAdd, reduceLeDiff, reduceLT, reduceCtorEq]
      refine c_cond rfl (fun h => by simp at h) (fun _ => ?_)
      refine c_skip ?_
      simp only [go_sem]
      refine hnr _ _ ⟨?_, rfl, rfl, rfl, rfl, rfl, rfl⟩
      have kn : Kn H H14 [] ([(x14, .st [.int .i64 0, .int .i64 0, yc])] ++ ([(y, .vec 5 yr)] ++ ([(x3, .st q.cells), (x6, .st [.int .i64 0, .int .i64 0, oc])] ++ Lg))) := kn
      have := kn.perm (L' := ([(x3, .st q.cells), (x6, .st [.int .i64 0, .int .i64 0, oc])] ++ Lg) ++ ([(x14, .st [.int .i64 0, .int .i64 0, yc])] ++ [(y, .vec 5 yr)])) (perm_of_add fun f hf h0 hc hp => by simp only [hf]; omega)
      exact this.drop
     ·rintro e2 H10 ⟨kn, l4, l5, l6, l87, l88, l89⟩
      refine c_reg ?_
      simp only [go_sem, X.next, l4, l5, l6, l87, l88, l89, reduceIte, reduceEqDiff, reduceAdd, reduceLeDiff, reduceLT, reduceCtorEq]
      exact ⟨inR64 (by omega) (by omega), L.length - (i + 1), by omega, i + 1, rfl, by omega, kn, rfl⟩
    ·intro hc2
     refine c_exit ?_
     simp only [go_sem, X.next]
     refine s_reg ?_
     simp only [go_sem, reduceIte, reduceEqDiff, reduceAdd, reduceLeDiff, reduceLT, reduceCtorEq]
     refine wwHas_c (ns := L.map Int.ofNat) (.mk' _ _ _ _) rfl ?_
     rw [hcon k]
     simp only [go_sem, s_la_FnLoopBody_i40, hkL, decide_true, reduceIte, reduceEqDiff, reduceAdd, reduceLeDiff, reduceLT, reduceCtorEq]
     refine c_ret ?_
     exact retT' _ _ rfl
end Go.AE.Y

namespace Go.AE.Y
open Go.ChangeShapes Go.WideShapes Go.ChangeAt Go.RowKit
def IsBytes (w : World) (a : Option Addr) (len cap : Nat) (zs : List Int) : Prop :=
 (a = none ∧ len = 0 ∧ cap = 0 ∧ zs = []) ∨
 ∃ x, a = some x ∧ len ≤ cap ∧ zs.length = cap ∧ (∀ i, i < zs.length → w.cell? (x.add i) = some (.int .u8 (zs.getD i 0))) ∧ ∀ n ∈ zs, (Lit.int .u8 n).wf = true
theorem sat_start (w : World) : Sat (fun _ => .none) ⟨fun b => decide (b < w.heap.size), fun _ => none, fun _ => none⟩ w := by
 refine ⟨fun b hb => ⟨by simp; omega, rfl⟩, ⟨0, fun _ _ => rfl⟩, fun b x h => by simp at h, fun b l p h => by simp at h, fun l => trivial⟩
theorem byte_of {n : Int} (h : (Lit.int .u8 n).wf = true) : ((UInt8.ofNat n.toNat).toNat : Int) = n := by
 simp only [Lit.wf, Bool.and_eq_true, decide_eq_true_eq] at h
 have a1 : IntKind.min .u8 = 0 := by decide
 have a2 : IntKind.max .u8 = 255 := by decide
 rw [a1, a2] at h
 rw [UInt8.toNat_ofNat']
 omega
theorem calls_of_acall {P : Program} {f : Nat} (h : ∀ bs : List UInt8, bs.length ≤ 1048576 → ACall P f [.c (.sl false 1 (bytesOf bs))] (fun _ => .none) fun v _ => v = .c (.bool true))
  {a0 : Option Addr} {len0 cap0 : Nat} {z0 : List Int} {w : World} (hr : IsBytes w a0 len0 cap0 z0) (hl : len0 ≤ 1048576) :
  Calls P f #[.slice a0 len0 cap0] w fun e w' => e = .returned (.bool true) ∧ Below w.heap.size w w' := by
 have key : ∃ bs : List UInt8, bs.length = len0 ∧ RepC w ⟨fun b => decide (b < w.heap.size), fun _ => none, fun _ => none⟩ (.sl false 1 (bytesOf bs)) (.slice a0 len0 cap0) := by
  rcases hr with ⟨rfl, rfl, rfl, rfl⟩ | ⟨x, rfl, hlc, hz, hcell, hwf⟩
  ·exact ⟨[], rfl, .slnil _ _ _⟩
  ·obtain ⟨b, off, spot⟩ := x
   have hbl : ((z0.take len0).map fun n => UInt8.ofNat n.toNat).length = len0 := by simp; omega
   by_cases h0 : cap0 = 0
   ·subst h0
    have : len0 = 0 := by omega
    subst this
    exact ⟨[], rfl, .slnil _ _ _⟩
   have hc0 := hcell 0 (by omega)
   have hspot : spot = none := by simpa [Addr.add] using World.cell?_spot hc0
   subst hspot
   have hadd : ∀ i, (⟨b, off, none⟩ : Addr).add i = ⟨b, off + i, none⟩ := by
    intro i
    by_cases h : i = 0 <;> simp [Addr.add, h]
   have hb : b < w.heap.size := by
    rcases Nat.lt_or_ge b w.heap.size with h | h
    ·exact h
    ·simp [World.cell?, Addr.add, Array.getElem?_eq_none h] at hc0
   refine ⟨_, hbl, ?_⟩
   have hget : ∀ (i : Nat) (row : List C), (bytesOf ((z0.take len0).map fun n => UInt8.ofNat n.toNat))[i]? = some row → i < len0 ∧ row = [.int .u8 (z0.getD i 0)] := by
    intro i row hi
    have hlt : i < len0 := by
     rcases Nat.lt_or_ge i len0 with h | h
     ·exact h
     ·rw [List.getElem?_eq_none (by rw [bytesOf_len]; omega)] at hi; simp at hi
    have hz0 : i < z0.length := by omega
    refine ⟨hlt, ?_⟩
    simp only [bytesOf, List.getElem?_map, List.getElem?_take, if_pos hlt, List.getElem?_eq_getElem hz0, Option.map_some, Option.some.injEq] at hi
    rw [← hi, byte_of (hwf _ (List.getElem_mem hz0))]
    simp [List.getD_eq_getElem?_getD, hz0]
   have := RepC.sl (w := w) (g := ⟨fun b => decide (b < w.heap.size), fun _ => none, fun _ => none⟩) false 1 (bytesOf ((z0.take len0).map fun n => UInt8.ofNat n.toNat)) b off cap0 (fun i _ => .int .u8 (z0.getD i 0))
    (by rw [bytesOf_len, hbl]; simp only [LIM]; omega) (by simp) (by rw [bytesOf_len, hbl]; exact hlc) (by simpa using hb)
    (fun i row hi => by rw [(hget i row hi).2]; rfl)
    (fun i row j c hi hj => by
     obtain ⟨h1, rfl⟩ := hget i row hi
     have hj0 : j = 0 := by
      rcases Nat.eq_zero_or_pos j with h | h
      ·exact h
      ·rw [List.getElem?_eq_none (by simp; omega)] at hj; simp at hj
     subst hj0
     have := hcell i (by omega)
     rw [hadd] at this
     simpa using this)
    (fun i row j c hi hj => by
     obtain ⟨h1, rfl⟩ := hget i row hi
     have hj0 : j = 0 := by
      rcases Nat.eq_zero_or_pos j with h | h
      ·exact h
      ·rw [List.getElem?_eq_none (by simp; omega)] at hj; simp at hj
     subst hj0
     simp at hj; subst hj
     exact .int _ _)
   rw [bytesOf_len, hbl] at this
   exact this
 obtain ⟨bs, hbl, hrep⟩ := key
 have hc := (h bs (by omega)).2 _ w [.slice a0 len0 cap0] (sat_start w) rfl (fun j x u hj hu => by
  cases j with
  | zero => simp at hj hu; subst hj; subst hu; exact .c _ _ hrep
  | succ j => simp at hj)
 refine hc.mono fun e w' => ?_
 rintro ⟨v, x, H', g', rfl, rfl, hst, hv⟩
 have : v = .bool true := by cases hv with | c _ _ h => cases h; rfl
 subst this
 exact ⟨rfl, hst.le.os, hst.le.tape, hst.le.output, hst.le.size, fun k hk => (hst.le.per k (by simpa using hk)).2⟩
end Go.AE.Y

