/-
  DERIVED. GIVEN WITH THE SEED: THE CARDS: each row of YtlfdcfggpccakaaGreatDoorRows.lean that lists a variable, with what it lists TIED to the program's text (the seventh form; the later family's looks); each row that meets fmt, with fmt's text TOLD by the authors' own Lean function (tested against real Go, not proved from fmt's source: count such statements apart). THE CARD IS WHAT COUNTS. Prove the row's statement (the work); the ties are given (YtlfdcfggpccakaaGreatDoorTie.lean); close each card by the builder's one call (the guide's Derived/Test/ToyasCard.lean, 'card_holds'). Laid BY PROGRAM, IN A SANDBOX (cutbox-door.mjs). By AI agents, Wed Nov 11 2026. No macro, syntax, notation, axiom, sorry.
-/
import Derived.Test.YtlfdcfggpccakaaGreatDoorRows
import GoSem.ClaimSeven
namespace Go.Proofs.YtlfdcfggpccakaaGreatDoor
namespace Rows

/-- THE TIED CARD OF 'laws.FnDropReached'. -/
def fnDropReachedCard : Claim7 := { stood := { row := fnDropReachedRow, standIns := [], harness := (true, "d4c062c04a0943765952617ea5ad95758c638a7eecb14e289602b7f950fc0bc6"), looks := true }, kinds := [], alts := [], laidByText := true, laidKinds := [.data], laidTests := true, laidLooks := .later }
def FnDropReachedCardSaid : Prop := Claim7.holds Tryz.pinned (.plain (OpenSpec.ofChange fnDropReachedSpec)) fnDropReachedCard

/-- THE TIED CARD OF 'laws.FnOrderRuns'. -/
def fnOrderRunsCard : Claim7 := { stood := { row := fnOrderRunsRow, standIns := [], harness := (true, "d4c062c04a0943765952617ea5ad95758c638a7eecb14e289602b7f950fc0bc6"), looks := true }, kinds := [], alts := [], laidByText := true, laidKinds := [.data], laidTests := true, laidLooks := .later }
def FnOrderRunsCardSaid : Prop := Claim7.holds Tryz.pinned (.plain (OpenSpec.ofChange fnOrderRunsSpec)) fnOrderRunsCard

/-- THE TIED CARD OF 'laws.FnSplitRuns'. -/
def fnSplitRunsCard : Claim7 := { stood := { row := fnSplitRunsRow, standIns := [], harness := (true, "d4c062c04a0943765952617ea5ad95758c638a7eecb14e289602b7f950fc0bc6"), looks := true }, kinds := [], alts := [], laidByText := true, laidKinds := [.data], laidTests := true, laidLooks := .later }
def FnSplitRunsCardSaid : Prop := Claim7.holds Tryz.pinned (.plain (OpenSpec.ofChange fnSplitRunsSpec)) fnSplitRunsCard

/-- THE TIED CARD OF 'laws.FnLiveBehind'. -/
def fnLiveBehindCard : Claim7 := { stood := { row := fnLiveBehindRow, standIns := [], harness := (true, "d4c062c04a0943765952617ea5ad95758c638a7eecb14e289602b7f950fc0bc6"), looks := true }, kinds := [], alts := [], laidByText := true, laidKinds := [.data], laidTests := true, laidLooks := .later }
def FnLiveBehindCardSaid : Prop := Claim7.holds Tryz.pinned (.plain (OpenSpec.ofChange fnLiveBehindSpec)) fnLiveBehindCard

/-- THE TIED CARD OF 'laws.FnDropIdle'. -/
def fnDropIdleCard : Claim7 := { stood := { row := fnDropIdleRow, standIns := [], harness := (true, "d4c062c04a0943765952617ea5ad95758c638a7eecb14e289602b7f950fc0bc6"), looks := true }, kinds := [], alts := [], laidByText := true, laidKinds := [.data], laidTests := true, laidLooks := .later }
def FnDropIdleCardSaid : Prop := Claim7.holds Tryz.pinned (.plain (OpenSpec.ofChange fnDropIdleSpec)) fnDropIdleCard

/-- THE TIED CARD OF 'laws.FnEvenRuns'. -/
def fnEvenRunsCard : Claim7 := { stood := { row := fnEvenRunsRow, standIns := [], harness := (true, "d4c062c04a0943765952617ea5ad95758c638a7eecb14e289602b7f950fc0bc6"), looks := true }, kinds := [], alts := [], laidByText := true, laidKinds := [.data], laidTests := true, laidLooks := .later }
def FnEvenRunsCardSaid : Prop := Claim7.holds Tryz.pinned (.plain (OpenSpec.ofChange fnEvenRunsSpec)) fnEvenRunsCard

/-- THE TIED CARD OF 'laws.FnKnownWays'. -/
def fnKnownWaysCard : Claim7 := { stood := { row := fnKnownWaysRow, standIns := [], harness := (true, "d4c062c04a0943765952617ea5ad95758c638a7eecb14e289602b7f950fc0bc6"), looks := true }, kinds := [], alts := [], laidByText := true, laidKinds := [.data], laidTests := true, laidLooks := .later }
def FnKnownWaysCardSaid : Prop := Claim7.holds Tryz.pinned (.plain (OpenSpec.ofChange fnKnownWaysSpec)) fnKnownWaysCard

/-- THE TIED CARD OF 'laws.FnDropCodesRuns'. -/
def fnDropCodesRunsCard : Claim7 := { stood := { row := fnDropCodesRunsRow, standIns := [], harness := (true, "d4c062c04a0943765952617ea5ad95758c638a7eecb14e289602b7f950fc0bc6"), looks := true }, kinds := [], alts := [], laidByText := true, laidKinds := [.data], laidTests := true, laidLooks := .later }
def FnDropCodesRunsCardSaid : Prop := Claim7.holds Tryz.pinned (.plain (OpenSpec.ofChange fnDropCodesRunsSpec)) fnDropCodesRunsCard

/-- THE SECOND FORM's CARD OF 'laws.FnDropReached'. -/
def fnDropReachedUptoCard : Claim7 := { stood := { row := fnDropReachedUptoRow, standIns := [], harness := (true, "d4c062c04a0943765952617ea5ad95758c638a7eecb14e289602b7f950fc0bc6"), looks := true }, kinds := [], alts := [], laidByText := true, laidKinds := [.data], laidTests := true, laidLooks := .later }
def FnDropReachedUptoCardSaid : Prop := Claim7.holds Tryz.pinned (.plain (OpenSpec.upto fnDropReachedSpec)) fnDropReachedUptoCard

/-- THE SECOND FORM's CARD OF 'laws.FnOrderRuns'. -/
def fnOrderRunsUptoCard : Claim7 := { stood := { row := fnOrderRunsUptoRow, standIns := [], harness := (true, "d4c062c04a0943765952617ea5ad95758c638a7eecb14e289602b7f950fc0bc6"), looks := true }, kinds := [], alts := [], laidByText := true, laidKinds := [.data], laidTests := true, laidLooks := .later }
def FnOrderRunsUptoCardSaid : Prop := Claim7.holds Tryz.pinned (.plain (OpenSpec.upto fnOrderRunsSpec)) fnOrderRunsUptoCard

/-- THE SECOND FORM's CARD OF 'laws.FnSplitRuns'. -/
def fnSplitRunsUptoCard : Claim7 := { stood := { row := fnSplitRunsUptoRow, standIns := [], harness := (true, "d4c062c04a0943765952617ea5ad95758c638a7eecb14e289602b7f950fc0bc6"), looks := true }, kinds := [], alts := [], laidByText := true, laidKinds := [.data], laidTests := true, laidLooks := .later }
def FnSplitRunsUptoCardSaid : Prop := Claim7.holds Tryz.pinned (.plain (OpenSpec.upto fnSplitRunsSpec)) fnSplitRunsUptoCard

/-- THE SECOND FORM's CARD OF 'laws.FnLiveBehind'. -/
def fnLiveBehindUptoCard : Claim7 := { stood := { row := fnLiveBehindUptoRow, standIns := [], harness := (true, "d4c062c04a0943765952617ea5ad95758c638a7eecb14e289602b7f950fc0bc6"), looks := true }, kinds := [], alts := [], laidByText := true, laidKinds := [.data], laidTests := true, laidLooks := .later }
def FnLiveBehindUptoCardSaid : Prop := Claim7.holds Tryz.pinned (.plain (OpenSpec.upto fnLiveBehindSpec)) fnLiveBehindUptoCard

/-- THE SECOND FORM's CARD OF 'laws.FnDropIdle'. -/
def fnDropIdleUptoCard : Claim7 := { stood := { row := fnDropIdleUptoRow, standIns := [], harness := (true, "d4c062c04a0943765952617ea5ad95758c638a7eecb14e289602b7f950fc0bc6"), looks := true }, kinds := [], alts := [], laidByText := true, laidKinds := [.data], laidTests := true, laidLooks := .later }
def FnDropIdleUptoCardSaid : Prop := Claim7.holds Tryz.pinned (.plain (OpenSpec.upto fnDropIdleSpec)) fnDropIdleUptoCard

/-- THE SECOND FORM's CARD OF 'laws.FnEvenRuns'. -/
def fnEvenRunsUptoCard : Claim7 := { stood := { row := fnEvenRunsUptoRow, standIns := [], harness := (true, "d4c062c04a0943765952617ea5ad95758c638a7eecb14e289602b7f950fc0bc6"), looks := true }, kinds := [], alts := [], laidByText := true, laidKinds := [.data], laidTests := true, laidLooks := .later }
def FnEvenRunsUptoCardSaid : Prop := Claim7.holds Tryz.pinned (.plain (OpenSpec.upto fnEvenRunsSpec)) fnEvenRunsUptoCard

/-- THE SECOND FORM's CARD OF 'laws.FnKnownWays'. -/
def fnKnownWaysUptoCard : Claim7 := { stood := { row := fnKnownWaysUptoRow, standIns := [], harness := (true, "d4c062c04a0943765952617ea5ad95758c638a7eecb14e289602b7f950fc0bc6"), looks := true }, kinds := [], alts := [], laidByText := true, laidKinds := [.data], laidTests := true, laidLooks := .later }
def FnKnownWaysUptoCardSaid : Prop := Claim7.holds Tryz.pinned (.plain (OpenSpec.upto fnKnownWaysSpec)) fnKnownWaysUptoCard

/-- THE SECOND FORM's CARD OF 'laws.FnDropCodesRuns'. -/
def fnDropCodesRunsUptoCard : Claim7 := { stood := { row := fnDropCodesRunsUptoRow, standIns := [], harness := (true, "d4c062c04a0943765952617ea5ad95758c638a7eecb14e289602b7f950fc0bc6"), looks := true }, kinds := [], alts := [], laidByText := true, laidKinds := [.data], laidTests := true, laidLooks := .later }
def FnDropCodesRunsUptoCardSaid : Prop := Claim7.holds Tryz.pinned (.plain (OpenSpec.upto fnDropCodesRunsSpec)) fnDropCodesRunsUptoCard
end Rows
end Go.Proofs.YtlfdcfggpccakaaGreatDoor
