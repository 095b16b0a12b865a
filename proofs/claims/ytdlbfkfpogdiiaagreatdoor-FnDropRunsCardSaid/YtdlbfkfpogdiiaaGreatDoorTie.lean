/-
  DERIVED. GIVEN WITH THE SEED: THE PROGRAM's TIES (one call each: nine closed facts by the kernel) AND EACH ROW's TIE, after the 31st guide's Derived/Test/Toyas{Tie, Card}.lean. No idea stands in it: it is a product of the set-up. Laid BY PROGRAM, IN A SANDBOX (cutbox-door.mjs). By AI agents, Wed Nov 11 2026. No macro, syntax, notation, axiom, sorry.
-/
import Derived.Test.YtdlbfkfpogdiiaaGreatDoorRows
import Derived.LaidByTextLater
import Derived.SevenTiedAt
import Derived.LaidSub
import Derived.LaidOnce
namespace Go.Proofs.YtdlbfkfpogdiiaaGreatDoor
open Go
set_option maxRecDepth 100000
theorem seatTie1 : Tryz.prog.laidByTextLater [("loop.example/wholeway/impl.keys", Rows.laid_loop_example_wholeway_impl_keys), ("loop.example/wholeway/impl.opSign", Rows.laid_loop_example_wholeway_impl_opSign), ("loop.example/wholeway/impl.tries", Rows.laid_loop_example_wholeway_impl_tries)] [.widerDeep, .mapped, .data] true :=
  Program.laidByTextLater_by_one 75 8 10 (by kernel_rfl) (by kernel_rfl) (by kernel_rfl) (by kernel_rfl) (by kernel_rfl) (by kernel_rfl) (fun _ _ => by kernel_rfl)
theorem noOwnUnsafe : Tryz.pinned.checked.prog.headLifts.contains "ownunsafe" = false := by kernel_rfl
theorem tie : Tryz.prog.laidByTextLater [("loop.example/wholeway/impl.keys", Rows.laid_loop_example_wholeway_impl_keys), ("loop.example/wholeway/impl.opSign", Rows.laid_loop_example_wholeway_impl_opSign)] [.widerDeep, .mapped] true :=
  Program.laidByTextLater.sub seatTie1 ["loop.example/wholeway/impl.keys", "loop.example/wholeway/impl.opSign"] (by kernel_rfl) (by kernel_rfl)
theorem fnDropUnneeded_row_tie : Rows.fnDropUnneededRow.laidByTextAt .later Tryz.pinned [.widerDeep, .mapped] true :=
  OpenClaim.laidByTextAt_later rfl rfl tie noOwnUnsafe
theorem fnLowerNames_row_tie : Rows.fnLowerNamesRow.laidByTextAt .later Tryz.pinned [.widerDeep, .mapped] true :=
  OpenClaim.laidByTextAt_later rfl rfl tie noOwnUnsafe
theorem fnLowerCalls_row_tie : Rows.fnLowerCallsRow.laidByTextAt .later Tryz.pinned [.widerDeep, .mapped] true :=
  OpenClaim.laidByTextAt_later rfl rfl tie noOwnUnsafe
theorem fnTame_row_tie : Rows.fnTameRow.laidByTextAt .later Tryz.pinned [.widerDeep, .mapped] true :=
  OpenClaim.laidByTextAt_later rfl rfl tie noOwnUnsafe
theorem fnDropRuns_row_tie : Rows.fnDropRunsRow.laidByTextAt .later Tryz.pinned [.widerDeep, .mapped] true :=
  OpenClaim.laidByTextAt_later rfl rfl tie noOwnUnsafe
theorem fnLowerInput_row_tie : Rows.fnLowerInputRow.laidByTextAt .later Tryz.pinned [.widerDeep, .mapped] true :=
  OpenClaim.laidByTextAt_later rfl rfl tie noOwnUnsafe
theorem tie2 : Tryz.prog.laidByTextLater [("loop.example/wholeway/impl.keys", Rows.laid_loop_example_wholeway_impl_keys), ("loop.example/wholeway/impl.opSign", Rows.laid_loop_example_wholeway_impl_opSign), ("loop.example/wholeway/impl.tries", Rows.laid_loop_example_wholeway_impl_tries)] [.widerDeep, .mapped, .data] true :=
  Program.laidByTextLater.sub seatTie1 ["loop.example/wholeway/impl.keys", "loop.example/wholeway/impl.opSign", "loop.example/wholeway/impl.tries"] (by kernel_rfl) (by kernel_rfl)
theorem fnLowerExpr_row_tie : Rows.fnLowerExprRow.laidByTextAt .later Tryz.pinned [.widerDeep, .mapped, .data] true :=
  OpenClaim.laidByTextAt_later rfl rfl tie2 noOwnUnsafe
theorem fnLowerRuns_row_tie : Rows.fnLowerRunsRow.laidByTextAt .later Tryz.pinned [.widerDeep, .mapped, .data] true :=
  OpenClaim.laidByTextAt_later rfl rfl tie2 noOwnUnsafe
theorem fnSimpler_row_tie : Rows.fnSimplerRow.laidByTextAt .later Tryz.pinned [.widerDeep, .mapped, .data] true :=
  OpenClaim.laidByTextAt_later rfl rfl tie2 noOwnUnsafe
theorem fnDropUnneededUpto_row_tie : Rows.fnDropUnneededUptoRow.laidByTextAt .later Tryz.pinned [.widerDeep, .mapped] true :=
  OpenClaim.laidByTextAt_later rfl rfl tie noOwnUnsafe
theorem fnLowerNamesUpto_row_tie : Rows.fnLowerNamesUptoRow.laidByTextAt .later Tryz.pinned [.widerDeep, .mapped] true :=
  OpenClaim.laidByTextAt_later rfl rfl tie noOwnUnsafe
theorem fnLowerCallsUpto_row_tie : Rows.fnLowerCallsUptoRow.laidByTextAt .later Tryz.pinned [.widerDeep, .mapped] true :=
  OpenClaim.laidByTextAt_later rfl rfl tie noOwnUnsafe
theorem fnTameUpto_row_tie : Rows.fnTameUptoRow.laidByTextAt .later Tryz.pinned [.widerDeep, .mapped] true :=
  OpenClaim.laidByTextAt_later rfl rfl tie noOwnUnsafe
theorem fnLowerExprUpto_row_tie : Rows.fnLowerExprUptoRow.laidByTextAt .later Tryz.pinned [.widerDeep, .mapped, .data] true :=
  OpenClaim.laidByTextAt_later rfl rfl tie2 noOwnUnsafe
theorem fnDropRunsUpto_row_tie : Rows.fnDropRunsUptoRow.laidByTextAt .later Tryz.pinned [.widerDeep, .mapped] true :=
  OpenClaim.laidByTextAt_later rfl rfl tie noOwnUnsafe
theorem fnLowerRunsUpto_row_tie : Rows.fnLowerRunsUptoRow.laidByTextAt .later Tryz.pinned [.widerDeep, .mapped, .data] true :=
  OpenClaim.laidByTextAt_later rfl rfl tie2 noOwnUnsafe
theorem fnLowerInputUpto_row_tie : Rows.fnLowerInputUptoRow.laidByTextAt .later Tryz.pinned [.widerDeep, .mapped] true :=
  OpenClaim.laidByTextAt_later rfl rfl tie noOwnUnsafe
theorem fnSimplerUpto_row_tie : Rows.fnSimplerUptoRow.laidByTextAt .later Tryz.pinned [.widerDeep, .mapped, .data] true :=
  OpenClaim.laidByTextAt_later rfl rfl tie2 noOwnUnsafe
end Go.Proofs.YtdlbfkfpogdiiaaGreatDoor
