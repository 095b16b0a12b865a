/-
  DERIVED. GIVEN WITH THE SEED: THE CARDS: each row of YthnafimjdcihlaaGreatDoorRows.lean that lists a variable, with what it lists TIED to the program's text (the seventh form; the later family's looks); each row that meets fmt, with fmt's text TOLD by the authors' own Lean function (tested against real Go, not proved from fmt's source: count such statements apart). THE CARD IS WHAT COUNTS. Prove the row's statement (the work); the ties are given (YthnafimjdcihlaaGreatDoorTie.lean); close each card by the builder's one call (the guide's Derived/Test/ToyasCard.lean, 'card_holds'). Laid BY PROGRAM, IN A SANDBOX (cutbox-door.mjs). By AI agents, Wed Nov 11 2026. No macro, syntax, notation, axiom, sorry.
-/
import Derived.Test.YthnafimjdcihlaaGreatDoorRows
import GoSem.ClaimSeven
namespace Go.Proofs.YthnafimjdcihlaaGreatDoor
namespace Rows

/-- THE TIED CARD OF 'laws.FnSimpler'. -/
def fnSimplerCard : Claim7 := { stood := { row := fnSimplerRow, standIns := [], harness := (true, "d72d48bcbfe74994712283e309426a74462792b87353da61b16674cd13b08a52"), looks := true }, kinds := [], alts := [], laidByText := true, laidKinds := [.widerDeep, .mapped, .data], laidTests := true, laidLooks := .later }
def FnSimplerCardSaid : Prop := Claim7.holds Tryz.pinned (.plain (OpenSpec.ofChange fnSimplerSpec)) fnSimplerCard

/-- THE TIED CARD OF 'laws.FnExactDropUnneeded'. -/
def fnExactDropUnneededCard : Claim7 := { stood := { row := fnExactDropUnneededRow, standIns := [], harness := (true, "d72d48bcbfe74994712283e309426a74462792b87353da61b16674cd13b08a52"), looks := true }, kinds := [], alts := [], laidByText := true, laidKinds := [.widerDeep, .mapped], laidTests := true, laidLooks := .later }
def FnExactDropUnneededCardSaid : Prop := Claim7.holds Tryz.pinned (.plain (OpenSpec.ofChange fnExactDropUnneededSpec)) fnExactDropUnneededCard

/-- THE TIED CARD OF 'laws.FnExactSimplerProgram'. -/
def fnExactSimplerProgramCard : Claim7 := { stood := { row := fnExactSimplerProgramRow, standIns := [], harness := (true, "d72d48bcbfe74994712283e309426a74462792b87353da61b16674cd13b08a52"), looks := true }, kinds := [], alts := [], laidByText := true, laidKinds := [.widerDeep, .mapped], laidTests := true, laidLooks := .later }
def FnExactSimplerProgramCardSaid : Prop := Claim7.holds Tryz.pinned (.plain (OpenSpec.ofChange fnExactSimplerProgramSpec)) fnExactSimplerProgramCard

/-- THE TIED CARD OF 'laws.FnExactLowerProgram'. -/
def fnExactLowerProgramCard : Claim7 := { stood := { row := fnExactLowerProgramRow, standIns := [], harness := (true, "d72d48bcbfe74994712283e309426a74462792b87353da61b16674cd13b08a52"), looks := true }, kinds := [], alts := [], laidByText := true, laidKinds := [.widerDeep, .mapped], laidTests := true, laidLooks := .later }
def FnExactLowerProgramCardSaid : Prop := Claim7.holds Tryz.pinned (.plain (OpenSpec.ofChange fnExactLowerProgramSpec)) fnExactLowerProgramCard

/-- THE TIED CARD OF 'laws.FnExactLowerExpr'. -/
def fnExactLowerExprCard : Claim7 := { stood := { row := fnExactLowerExprRow, standIns := [], harness := (true, "d72d48bcbfe74994712283e309426a74462792b87353da61b16674cd13b08a52"), looks := true }, kinds := [], alts := [], laidByText := true, laidKinds := [.widerDeep, .mapped], laidTests := true, laidLooks := .later }
def FnExactLowerExprCardSaid : Prop := Claim7.holds Tryz.pinned (.plain (OpenSpec.ofChange fnExactLowerExprSpec)) fnExactLowerExprCard

/-- THE SECOND FORM's CARD OF 'laws.FnSimpler'. -/
def fnSimplerUptoCard : Claim7 := { stood := { row := fnSimplerUptoRow, standIns := [], harness := (true, "d72d48bcbfe74994712283e309426a74462792b87353da61b16674cd13b08a52"), looks := true }, kinds := [], alts := [], laidByText := true, laidKinds := [.widerDeep, .mapped, .data], laidTests := true, laidLooks := .later }
def FnSimplerUptoCardSaid : Prop := Claim7.holds Tryz.pinned (.plain (OpenSpec.upto fnSimplerSpec)) fnSimplerUptoCard

/-- THE SECOND FORM's CARD OF 'laws.FnExactDropUnneeded'. -/
def fnExactDropUnneededUptoCard : Claim7 := { stood := { row := fnExactDropUnneededUptoRow, standIns := [], harness := (true, "d72d48bcbfe74994712283e309426a74462792b87353da61b16674cd13b08a52"), looks := true }, kinds := [], alts := [], laidByText := true, laidKinds := [.widerDeep, .mapped], laidTests := true, laidLooks := .later }
def FnExactDropUnneededUptoCardSaid : Prop := Claim7.holds Tryz.pinned (.plain (OpenSpec.upto fnExactDropUnneededSpec)) fnExactDropUnneededUptoCard

/-- THE SECOND FORM's CARD OF 'laws.FnExactSimplerProgram'. -/
def fnExactSimplerProgramUptoCard : Claim7 := { stood := { row := fnExactSimplerProgramUptoRow, standIns := [], harness := (true, "d72d48bcbfe74994712283e309426a74462792b87353da61b16674cd13b08a52"), looks := true }, kinds := [], alts := [], laidByText := true, laidKinds := [.widerDeep, .mapped], laidTests := true, laidLooks := .later }
def FnExactSimplerProgramUptoCardSaid : Prop := Claim7.holds Tryz.pinned (.plain (OpenSpec.upto fnExactSimplerProgramSpec)) fnExactSimplerProgramUptoCard

/-- THE SECOND FORM's CARD OF 'laws.FnExactLowerProgram'. -/
def fnExactLowerProgramUptoCard : Claim7 := { stood := { row := fnExactLowerProgramUptoRow, standIns := [], harness := (true, "d72d48bcbfe74994712283e309426a74462792b87353da61b16674cd13b08a52"), looks := true }, kinds := [], alts := [], laidByText := true, laidKinds := [.widerDeep, .mapped], laidTests := true, laidLooks := .later }
def FnExactLowerProgramUptoCardSaid : Prop := Claim7.holds Tryz.pinned (.plain (OpenSpec.upto fnExactLowerProgramSpec)) fnExactLowerProgramUptoCard

/-- THE SECOND FORM's CARD OF 'laws.FnExactLowerExpr'. -/
def fnExactLowerExprUptoCard : Claim7 := { stood := { row := fnExactLowerExprUptoRow, standIns := [], harness := (true, "d72d48bcbfe74994712283e309426a74462792b87353da61b16674cd13b08a52"), looks := true }, kinds := [], alts := [], laidByText := true, laidKinds := [.widerDeep, .mapped], laidTests := true, laidLooks := .later }
def FnExactLowerExprUptoCardSaid : Prop := Claim7.holds Tryz.pinned (.plain (OpenSpec.upto fnExactLowerExprSpec)) fnExactLowerExprUptoCard
end Rows
end Go.Proofs.YthnafimjdcihlaaGreatDoor
