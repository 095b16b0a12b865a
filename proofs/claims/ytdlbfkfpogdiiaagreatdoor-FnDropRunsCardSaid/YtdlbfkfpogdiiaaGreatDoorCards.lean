/-
  DERIVED. GIVEN WITH THE SEED: THE CARDS: each row of YtdlbfkfpogdiiaaGreatDoorRows.lean that lists a variable, with what it lists TIED to the program's text (the seventh form; the later family's looks); each row that meets fmt, with fmt's text TOLD by the authors' own Lean function (tested against real Go, not proved from fmt's source: count such statements apart). THE CARD IS WHAT COUNTS. Prove the row's statement (the work); the ties are given (YtdlbfkfpogdiiaaGreatDoorTie.lean); close each card by the builder's one call (the guide's Derived/Test/ToyasCard.lean, 'card_holds'). Laid BY PROGRAM, IN A SANDBOX (cutbox-door.mjs). By AI agents, Wed Nov 11 2026. No macro, syntax, notation, axiom, sorry.
-/
import Derived.Test.YtdlbfkfpogdiiaaGreatDoorRows
import GoSem.ClaimSeven
namespace Go.Proofs.YtdlbfkfpogdiiaaGreatDoor
namespace Rows

/-- THE TIED CARD OF 'laws.FnDropUnneeded'. -/
def fnDropUnneededCard : Claim7 := { stood := { row := fnDropUnneededRow, standIns := [], harness := (true, "e043827108dcc887bd4d8702cc2d0929c4bc566a9d3f3c03145b71d0b3e42efb"), looks := true }, kinds := [], alts := [], laidByText := true, laidKinds := [.widerDeep, .mapped], laidTests := true, laidLooks := .later }
def FnDropUnneededCardSaid : Prop := Claim7.holds Tryz.pinned (.plain (OpenSpec.ofChange fnDropUnneededSpec)) fnDropUnneededCard

/-- THE TIED CARD OF 'laws.FnLowerNames'. -/
def fnLowerNamesCard : Claim7 := { stood := { row := fnLowerNamesRow, standIns := [], harness := (true, "e043827108dcc887bd4d8702cc2d0929c4bc566a9d3f3c03145b71d0b3e42efb"), looks := true }, kinds := [], alts := [], laidByText := true, laidKinds := [.widerDeep, .mapped], laidTests := true, laidLooks := .later }
def FnLowerNamesCardSaid : Prop := Claim7.holds Tryz.pinned (.plain (OpenSpec.ofChange fnLowerNamesSpec)) fnLowerNamesCard

/-- THE TIED CARD OF 'laws.FnLowerCalls'. -/
def fnLowerCallsCard : Claim7 := { stood := { row := fnLowerCallsRow, standIns := [], harness := (true, "e043827108dcc887bd4d8702cc2d0929c4bc566a9d3f3c03145b71d0b3e42efb"), looks := true }, kinds := [], alts := [], laidByText := true, laidKinds := [.widerDeep, .mapped], laidTests := true, laidLooks := .later }
def FnLowerCallsCardSaid : Prop := Claim7.holds Tryz.pinned (.plain (OpenSpec.ofChange fnLowerCallsSpec)) fnLowerCallsCard

/-- THE TIED CARD OF 'laws.FnTame'. -/
def fnTameCard : Claim7 := { stood := { row := fnTameRow, standIns := [], harness := (true, "e043827108dcc887bd4d8702cc2d0929c4bc566a9d3f3c03145b71d0b3e42efb"), looks := true }, kinds := [], alts := [], laidByText := true, laidKinds := [.widerDeep, .mapped], laidTests := true, laidLooks := .later }
def FnTameCardSaid : Prop := Claim7.holds Tryz.pinned (.plain (OpenSpec.ofChange fnTameSpec)) fnTameCard

/-- THE TIED CARD OF 'laws.FnLowerExpr'. -/
def fnLowerExprCard : Claim7 := { stood := { row := fnLowerExprRow, standIns := [], harness := (true, "e043827108dcc887bd4d8702cc2d0929c4bc566a9d3f3c03145b71d0b3e42efb"), looks := true }, kinds := [], alts := [], laidByText := true, laidKinds := [.widerDeep, .mapped, .data], laidTests := true, laidLooks := .later }
def FnLowerExprCardSaid : Prop := Claim7.holds Tryz.pinned (.plain (OpenSpec.ofChange fnLowerExprSpec)) fnLowerExprCard

/-- THE TIED CARD OF 'laws.FnDropRuns'. -/
def fnDropRunsCard : Claim7 := { stood := { row := fnDropRunsRow, standIns := [], harness := (true, "e043827108dcc887bd4d8702cc2d0929c4bc566a9d3f3c03145b71d0b3e42efb"), looks := true }, kinds := [], alts := [], laidByText := true, laidKinds := [.widerDeep, .mapped], laidTests := true, laidLooks := .later }
def FnDropRunsCardSaid : Prop := Claim7.holds Tryz.pinned (.plain (OpenSpec.ofChange fnDropRunsSpec)) fnDropRunsCard

/-- THE TIED CARD OF 'laws.FnLowerRuns'. -/
def fnLowerRunsCard : Claim7 := { stood := { row := fnLowerRunsRow, standIns := [], harness := (true, "e043827108dcc887bd4d8702cc2d0929c4bc566a9d3f3c03145b71d0b3e42efb"), looks := true }, kinds := [], alts := [], laidByText := true, laidKinds := [.widerDeep, .mapped, .data], laidTests := true, laidLooks := .later }
def FnLowerRunsCardSaid : Prop := Claim7.holds Tryz.pinned (.plain (OpenSpec.ofChange fnLowerRunsSpec)) fnLowerRunsCard

/-- THE TIED CARD OF 'laws.FnLowerInput'. -/
def fnLowerInputCard : Claim7 := { stood := { row := fnLowerInputRow, standIns := [], harness := (true, "e043827108dcc887bd4d8702cc2d0929c4bc566a9d3f3c03145b71d0b3e42efb"), looks := true }, kinds := [], alts := [], laidByText := true, laidKinds := [.widerDeep, .mapped], laidTests := true, laidLooks := .later }
def FnLowerInputCardSaid : Prop := Claim7.holds Tryz.pinned (.plain (OpenSpec.ofChange fnLowerInputSpec)) fnLowerInputCard

/-- THE TIED CARD OF 'laws.FnSimpler'. -/
def fnSimplerCard : Claim7 := { stood := { row := fnSimplerRow, standIns := [], harness := (true, "e043827108dcc887bd4d8702cc2d0929c4bc566a9d3f3c03145b71d0b3e42efb"), looks := true }, kinds := [], alts := [], laidByText := true, laidKinds := [.widerDeep, .mapped, .data], laidTests := true, laidLooks := .later }
def FnSimplerCardSaid : Prop := Claim7.holds Tryz.pinned (.plain (OpenSpec.ofChange fnSimplerSpec)) fnSimplerCard

/-- THE SECOND FORM's CARD OF 'laws.FnDropUnneeded'. -/
def fnDropUnneededUptoCard : Claim7 := { stood := { row := fnDropUnneededUptoRow, standIns := [], harness := (true, "e043827108dcc887bd4d8702cc2d0929c4bc566a9d3f3c03145b71d0b3e42efb"), looks := true }, kinds := [], alts := [], laidByText := true, laidKinds := [.widerDeep, .mapped], laidTests := true, laidLooks := .later }
def FnDropUnneededUptoCardSaid : Prop := Claim7.holds Tryz.pinned (.plain (OpenSpec.upto fnDropUnneededSpec)) fnDropUnneededUptoCard

/-- THE SECOND FORM's CARD OF 'laws.FnLowerNames'. -/
def fnLowerNamesUptoCard : Claim7 := { stood := { row := fnLowerNamesUptoRow, standIns := [], harness := (true, "e043827108dcc887bd4d8702cc2d0929c4bc566a9d3f3c03145b71d0b3e42efb"), looks := true }, kinds := [], alts := [], laidByText := true, laidKinds := [.widerDeep, .mapped], laidTests := true, laidLooks := .later }
def FnLowerNamesUptoCardSaid : Prop := Claim7.holds Tryz.pinned (.plain (OpenSpec.upto fnLowerNamesSpec)) fnLowerNamesUptoCard

/-- THE SECOND FORM's CARD OF 'laws.FnLowerCalls'. -/
def fnLowerCallsUptoCard : Claim7 := { stood := { row := fnLowerCallsUptoRow, standIns := [], harness := (true, "e043827108dcc887bd4d8702cc2d0929c4bc566a9d3f3c03145b71d0b3e42efb"), looks := true }, kinds := [], alts := [], laidByText := true, laidKinds := [.widerDeep, .mapped], laidTests := true, laidLooks := .later }
def FnLowerCallsUptoCardSaid : Prop := Claim7.holds Tryz.pinned (.plain (OpenSpec.upto fnLowerCallsSpec)) fnLowerCallsUptoCard

/-- THE SECOND FORM's CARD OF 'laws.FnTame'. -/
def fnTameUptoCard : Claim7 := { stood := { row := fnTameUptoRow, standIns := [], harness := (true, "e043827108dcc887bd4d8702cc2d0929c4bc566a9d3f3c03145b71d0b3e42efb"), looks := true }, kinds := [], alts := [], laidByText := true, laidKinds := [.widerDeep, .mapped], laidTests := true, laidLooks := .later }
def FnTameUptoCardSaid : Prop := Claim7.holds Tryz.pinned (.plain (OpenSpec.upto fnTameSpec)) fnTameUptoCard

/-- THE SECOND FORM's CARD OF 'laws.FnLowerExpr'. -/
def fnLowerExprUptoCard : Claim7 := { stood := { row := fnLowerExprUptoRow, standIns := [], harness := (true, "e043827108dcc887bd4d8702cc2d0929c4bc566a9d3f3c03145b71d0b3e42efb"), looks := true }, kinds := [], alts := [], laidByText := true, laidKinds := [.widerDeep, .mapped, .data], laidTests := true, laidLooks := .later }
def FnLowerExprUptoCardSaid : Prop := Claim7.holds Tryz.pinned (.plain (OpenSpec.upto fnLowerExprSpec)) fnLowerExprUptoCard

/-- THE SECOND FORM's CARD OF 'laws.FnDropRuns'. -/
def fnDropRunsUptoCard : Claim7 := { stood := { row := fnDropRunsUptoRow, standIns := [], harness := (true, "e043827108dcc887bd4d8702cc2d0929c4bc566a9d3f3c03145b71d0b3e42efb"), looks := true }, kinds := [], alts := [], laidByText := true, laidKinds := [.widerDeep, .mapped], laidTests := true, laidLooks := .later }
def FnDropRunsUptoCardSaid : Prop := Claim7.holds Tryz.pinned (.plain (OpenSpec.upto fnDropRunsSpec)) fnDropRunsUptoCard

/-- THE SECOND FORM's CARD OF 'laws.FnLowerRuns'. -/
def fnLowerRunsUptoCard : Claim7 := { stood := { row := fnLowerRunsUptoRow, standIns := [], harness := (true, "e043827108dcc887bd4d8702cc2d0929c4bc566a9d3f3c03145b71d0b3e42efb"), looks := true }, kinds := [], alts := [], laidByText := true, laidKinds := [.widerDeep, .mapped, .data], laidTests := true, laidLooks := .later }
def FnLowerRunsUptoCardSaid : Prop := Claim7.holds Tryz.pinned (.plain (OpenSpec.upto fnLowerRunsSpec)) fnLowerRunsUptoCard

/-- THE SECOND FORM's CARD OF 'laws.FnLowerInput'. -/
def fnLowerInputUptoCard : Claim7 := { stood := { row := fnLowerInputUptoRow, standIns := [], harness := (true, "e043827108dcc887bd4d8702cc2d0929c4bc566a9d3f3c03145b71d0b3e42efb"), looks := true }, kinds := [], alts := [], laidByText := true, laidKinds := [.widerDeep, .mapped], laidTests := true, laidLooks := .later }
def FnLowerInputUptoCardSaid : Prop := Claim7.holds Tryz.pinned (.plain (OpenSpec.upto fnLowerInputSpec)) fnLowerInputUptoCard

/-- THE SECOND FORM's CARD OF 'laws.FnSimpler'. -/
def fnSimplerUptoCard : Claim7 := { stood := { row := fnSimplerUptoRow, standIns := [], harness := (true, "e043827108dcc887bd4d8702cc2d0929c4bc566a9d3f3c03145b71d0b3e42efb"), looks := true }, kinds := [], alts := [], laidByText := true, laidKinds := [.widerDeep, .mapped, .data], laidTests := true, laidLooks := .later }
def FnSimplerUptoCardSaid : Prop := Claim7.holds Tryz.pinned (.plain (OpenSpec.upto fnSimplerSpec)) fnSimplerUptoCard
end Rows
end Go.Proofs.YtdlbfkfpogdiiaaGreatDoor
