/-
  DERIVED. GIVEN WITH THE SEED: THE CARDS: each row of YtchjcdooknkfpaaGreatDoorRows.lean that lists a variable, with what it lists TIED to the program's text (the seventh form; the later family's looks); each row that meets fmt, with fmt's text TOLD by the authors' own Lean function (tested against real Go, not proved from fmt's source: count such statements apart). THE CARD IS WHAT COUNTS. Prove the row's statement (the work); the ties are given (YtchjcdooknkfpaaGreatDoorTie.lean); close each card by the builder's one call (the guide's Derived/Test/ToyasCard.lean, 'card_holds'). Laid BY PROGRAM, IN A SANDBOX (cutbox-door.mjs). By AI agents, Wed Nov 11 2026. No macro, syntax, notation, axiom, sorry.
-/
import Derived.Test.YtchjcdooknkfpaaGreatDoorRows
import GoSem.ClaimSeven
namespace Go.Proofs.YtchjcdooknkfpaaGreatDoor
namespace Rows

/-- THE TIED CARD OF 'laws.FnSkipRuns'. -/
def fnSkipRunsCard : Claim7 := { stood := { row := fnSkipRunsRow, standIns := [], harness := (true, "32867aed4f01803f7394347e01b76bef52de78800b2b2695c6de138b16fb97c4"), looks := true }, kinds := [], alts := [], laidByText := true, laidKinds := [.data], laidTests := true, laidLooks := .later }
def FnSkipRunsCardSaid : Prop := Claim7.holds Tryz.pinned (.plain (OpenSpec.ofChange fnSkipRunsSpec)) fnSkipRunsCard

/-- THE TIED CARD OF 'laws.FnJoinRuns'. -/
def fnJoinRunsCard : Claim7 := { stood := { row := fnJoinRunsRow, standIns := [], harness := (true, "32867aed4f01803f7394347e01b76bef52de78800b2b2695c6de138b16fb97c4"), looks := true }, kinds := [], alts := [], laidByText := true, laidKinds := [.data], laidTests := true, laidLooks := .later }
def FnJoinRunsCardSaid : Prop := Claim7.holds Tryz.pinned (.plain (OpenSpec.ofChange fnJoinRunsSpec)) fnJoinRunsCard

/-- THE TIED CARD OF 'laws.FnCleanRuns'. -/
def fnCleanRunsCard : Claim7 := { stood := { row := fnCleanRunsRow, standIns := [], harness := (true, "32867aed4f01803f7394347e01b76bef52de78800b2b2695c6de138b16fb97c4"), looks := true }, kinds := [], alts := [], laidByText := true, laidKinds := [.data], laidTests := true, laidLooks := .later }
def FnCleanRunsCardSaid : Prop := Claim7.holds Tryz.pinned (.plain (OpenSpec.ofChange fnCleanRunsSpec)) fnCleanRunsCard

/-- THE TIED CARD OF 'laws.FnCleanAgain'. -/
def fnCleanAgainCard : Claim7 := { stood := { row := fnCleanAgainRow, standIns := [], harness := (true, "32867aed4f01803f7394347e01b76bef52de78800b2b2695c6de138b16fb97c4"), looks := true }, kinds := [], alts := [], laidByText := true, laidKinds := [.data], laidTests := true, laidLooks := .later }
def FnCleanAgainCardSaid : Prop := Claim7.holds Tryz.pinned (.plain (OpenSpec.ofChange fnCleanAgainSpec)) fnCleanAgainCard

/-- THE SECOND FORM's CARD OF 'laws.FnSkipRuns'. -/
def fnSkipRunsUptoCard : Claim7 := { stood := { row := fnSkipRunsUptoRow, standIns := [], harness := (true, "32867aed4f01803f7394347e01b76bef52de78800b2b2695c6de138b16fb97c4"), looks := true }, kinds := [], alts := [], laidByText := true, laidKinds := [.data], laidTests := true, laidLooks := .later }
def FnSkipRunsUptoCardSaid : Prop := Claim7.holds Tryz.pinned (.plain (OpenSpec.upto fnSkipRunsSpec)) fnSkipRunsUptoCard

/-- THE SECOND FORM's CARD OF 'laws.FnJoinRuns'. -/
def fnJoinRunsUptoCard : Claim7 := { stood := { row := fnJoinRunsUptoRow, standIns := [], harness := (true, "32867aed4f01803f7394347e01b76bef52de78800b2b2695c6de138b16fb97c4"), looks := true }, kinds := [], alts := [], laidByText := true, laidKinds := [.data], laidTests := true, laidLooks := .later }
def FnJoinRunsUptoCardSaid : Prop := Claim7.holds Tryz.pinned (.plain (OpenSpec.upto fnJoinRunsSpec)) fnJoinRunsUptoCard

/-- THE SECOND FORM's CARD OF 'laws.FnCleanRuns'. -/
def fnCleanRunsUptoCard : Claim7 := { stood := { row := fnCleanRunsUptoRow, standIns := [], harness := (true, "32867aed4f01803f7394347e01b76bef52de78800b2b2695c6de138b16fb97c4"), looks := true }, kinds := [], alts := [], laidByText := true, laidKinds := [.data], laidTests := true, laidLooks := .later }
def FnCleanRunsUptoCardSaid : Prop := Claim7.holds Tryz.pinned (.plain (OpenSpec.upto fnCleanRunsSpec)) fnCleanRunsUptoCard

/-- THE SECOND FORM's CARD OF 'laws.FnCleanAgain'. -/
def fnCleanAgainUptoCard : Claim7 := { stood := { row := fnCleanAgainUptoRow, standIns := [], harness := (true, "32867aed4f01803f7394347e01b76bef52de78800b2b2695c6de138b16fb97c4"), looks := true }, kinds := [], alts := [], laidByText := true, laidKinds := [.data], laidTests := true, laidLooks := .later }
def FnCleanAgainUptoCardSaid : Prop := Claim7.holds Tryz.pinned (.plain (OpenSpec.upto fnCleanAgainSpec)) fnCleanAgainUptoCard
end Rows
end Go.Proofs.YtchjcdooknkfpaaGreatDoor
