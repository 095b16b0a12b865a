/-
  NARROWER THAN 'FOR EVERY INPUT', by the rows' own cells (each row's printed sentence says how): FnSimpler: maps, laid · FnExactDropUnneeded: loops, maps, laid · FnExactSimplerProgram: loops, maps, laid · FnExactLowerProgram: loops, maps, laid · FnExactLowerExpr: loops, maps, laid.
  DERIVED. THE GIVEN ROWS OF THIS SEAT. 5 by the template 'for every input the law returns true; each argument reads behind the call as it read before'; 0 by the template 'total and deterministic' (their statements: YthnafimjdcihlaaGreatDoorTotals.lean).
  GIVEN WITH THE SEED: the statements are not yours to turn. If you find one false, say at which input.
  Laid BY PROGRAM, IN A SANDBOX (cutbox-rows.mjs): the forced cells as the released guide's own fill.sh prints them over the translation a185c83f313d33d5… (all of the seat's roots in one cut). By AI agents, Wed Nov 11 2026. No macro, syntax, notation, axiom, sorry.
-/
import Derived.Test.YthnafimjdcihlaaGreatDoorChecked
import GoSem.Claim
import GoSem.ClaimJoined
import GoSem.ClaimMapViews
import Derived.JoinedTies
import Derived.KernelRfl
namespace Go.Proofs.YthnafimjdcihlaaGreatDoor
/- THE CELL 'sum', in the pinned program and in every row, IS THE sha256 OF THE DUMP (.gsa) THAT YthnafimjdcihlaaGreatDoorProg.lean LOADS. Nothing in Lean hashes anything: it is a label: what it is worth is what the hold of that sum in a sandbox is worth. -/
noncomputable def Tryz.pinned : Pinned := { name := "ythnafimjdcihlaagreatdoor", sum := "a185c83f313d33d56132871be757cdecad000e79e94e3821977333f2868066ef", checked := Tryz.checked }
namespace Rows
def none {H : Type} : Left H := { results := [], args := [] }

/- WHAT THE LISTED PACKAGE-LEVEL VARIABLES READ AS WHEN THE CALL BEGINS. Each datum BY PROGRAM (the guide's laid-datum.mjs) off the statement by which the dump's own 'gosem.cut.vars' lays the variable. In a bare row this is a premise. The card (YthnafimjdcihlaaGreatDoorCards.lean) ties it to the program's text. -/
def laid_loop_example_wholeway_impl_keys {H : Type} : DataW H := .agg [.lit (.string [102, 110]), .lit (.string [108, 101, 116]), .lit (.string [115, 97, 121]), .lit (.string [112, 117, 116]), .lit (.string [105, 102]), .lit (.string [101, 108, 115, 101]), .lit (.string [108, 111, 111, 112]), .lit (.string [98, 97, 99, 107]), .lit (.string [100, 111])]
def laid_loop_example_wholeway_impl_opSign {H : Type} : DataW H := .map [(.int .i64 3, .agg [.lit (.string [43]), .lit (.int .i64 3)]), (.int .i64 4, .agg [.lit (.string [45]), .lit (.int .i64 3)]), (.int .i64 5, .agg [.lit (.string [42]), .lit (.int .i64 4)]), (.int .i64 6, .agg [.lit (.string [47]), .lit (.int .i64 4)]), (.int .i64 7, .agg [.lit (.string [37]), .lit (.int .i64 4)]), (.int .i64 8, .agg [.lit (.string [60]), .lit (.int .i64 2)]), (.int .i64 9, .agg [.lit (.string [61]), .lit (.int .i64 2)]), (.int .i64 10, .agg [.lit (.string [38]), .lit (.int .i64 1)])]
def laid_loop_example_wholeway_impl_tries {H : Type} : DataW H := .agg [.agg [.lit (.int .i64 0), .lit (.int .i64 0), .lit (.int .i64 0)], .agg [.lit (.int .i64 1), .lit (.int .i64 2), .lit (.int .i64 3)], .agg [.lit (.int .i64 255), .lit (.int .i64 16), .lit (.int .i64 7)]]

/-- 'laws.FnSimpler': WHATEVER THE INPUT: true; the input reads as it did. -/
def fnSimplerSpec : ChangeSpec := { name := "fnSimpler", vars := ["loop.example/wholeway/impl.keys", "loop.example/wholeway/impl.opSign", "loop.example/wholeway/impl.tries"], fn := fun _ => fun
  | [d, g1, g2, g3] => { results := [.lit (.bool true)], args := [d], vars := [g1, g2, g3] }
  | _ => none }
def fnSimplerRow : OpenClaim := { program := "ythnafimjdcihlaagreatdoor", sum := "a185c83f313d33d56132871be757cdecad000e79e94e3821977333f2868066ef", func := "loop.example/wholeway/laws.FnSimpler", spec := "fnSimpler", unfollowed := true, recurses := true, named := ["loop.example/wholeway/impl.keys", "loop.example/wholeway/impl.opSign", "loop.example/wholeway/impl.tries"], maps := true, apart := false, laid := [("loop.example/wholeway/impl.keys", laid_loop_example_wholeway_impl_keys), ("loop.example/wholeway/impl.opSign", laid_loop_example_wholeway_impl_opSign), ("loop.example/wholeway/impl.tries", laid_loop_example_wholeway_impl_tries)] }
def FnSimplerSaid : Prop := fnSimplerRow.holds Tryz.pinned (OpenSpec.ofChange fnSimplerSpec)

/-- ITS FALSE NEIGHBOUR: 'it returns false'. Refute it at one input. -/
def fnSimplerWrong : ChangeSpec := { name := "fnSimpler", vars := ["loop.example/wholeway/impl.keys", "loop.example/wholeway/impl.opSign", "loop.example/wholeway/impl.tries"], fn := fun _ => fun
  | [d, g1, g2, g3] => { results := [.lit (.bool false)], args := [d], vars := [g1, g2, g3] }
  | _ => none }
def FnSimplerWrongFalsely : Prop := fnSimplerRow.holds Tryz.pinned (OpenSpec.ofChange fnSimplerWrong)

/-- 'laws.FnExactDropUnneeded': WHATEVER THE INPUT: true; the input reads as it did. -/
def fnExactDropUnneededSpec : ChangeSpec := { name := "fnExactDropUnneeded", vars := ["loop.example/wholeway/impl.keys", "loop.example/wholeway/impl.opSign"], fn := fun _ => fun
  | [d, g1, g2] => { results := [.lit (.bool true)], args := [d], vars := [g1, g2] }
  | _ => none }
def fnExactDropUnneededRow : OpenClaim := { program := "ythnafimjdcihlaagreatdoor", sum := "a185c83f313d33d56132871be757cdecad000e79e94e3821977333f2868066ef", func := "loop.example/wholeway/laws.FnExactDropUnneeded", spec := "fnExactDropUnneeded", unfollowed := true, recurses := true, named := ["loop.example/wholeway/impl.keys", "loop.example/wholeway/impl.opSign"], maps := true, loops := true, apart := false, laid := [("loop.example/wholeway/impl.keys", laid_loop_example_wholeway_impl_keys), ("loop.example/wholeway/impl.opSign", laid_loop_example_wholeway_impl_opSign)] }
def FnExactDropUnneededSaid : Prop := fnExactDropUnneededRow.holds Tryz.pinned (OpenSpec.ofChange fnExactDropUnneededSpec)

/-- ITS FALSE NEIGHBOUR: 'it returns false'. Refute it at one input. -/
def fnExactDropUnneededWrong : ChangeSpec := { name := "fnExactDropUnneeded", vars := ["loop.example/wholeway/impl.keys", "loop.example/wholeway/impl.opSign"], fn := fun _ => fun
  | [d, g1, g2] => { results := [.lit (.bool false)], args := [d], vars := [g1, g2] }
  | _ => none }
def FnExactDropUnneededWrongFalsely : Prop := fnExactDropUnneededRow.holds Tryz.pinned (OpenSpec.ofChange fnExactDropUnneededWrong)

/-- 'laws.FnExactSimplerProgram': WHATEVER THE INPUT: true; the input reads as it did. -/
def fnExactSimplerProgramSpec : ChangeSpec := { name := "fnExactSimplerProgram", vars := ["loop.example/wholeway/impl.keys", "loop.example/wholeway/impl.opSign"], fn := fun _ => fun
  | [d, g1, g2] => { results := [.lit (.bool true)], args := [d], vars := [g1, g2] }
  | _ => none }
def fnExactSimplerProgramRow : OpenClaim := { program := "ythnafimjdcihlaagreatdoor", sum := "a185c83f313d33d56132871be757cdecad000e79e94e3821977333f2868066ef", func := "loop.example/wholeway/laws.FnExactSimplerProgram", spec := "fnExactSimplerProgram", unfollowed := true, recurses := true, named := ["loop.example/wholeway/impl.keys", "loop.example/wholeway/impl.opSign"], maps := true, loops := true, apart := false, laid := [("loop.example/wholeway/impl.keys", laid_loop_example_wholeway_impl_keys), ("loop.example/wholeway/impl.opSign", laid_loop_example_wholeway_impl_opSign)] }
def FnExactSimplerProgramSaid : Prop := fnExactSimplerProgramRow.holds Tryz.pinned (OpenSpec.ofChange fnExactSimplerProgramSpec)

/-- ITS FALSE NEIGHBOUR: 'it returns false'. Refute it at one input. -/
def fnExactSimplerProgramWrong : ChangeSpec := { name := "fnExactSimplerProgram", vars := ["loop.example/wholeway/impl.keys", "loop.example/wholeway/impl.opSign"], fn := fun _ => fun
  | [d, g1, g2] => { results := [.lit (.bool false)], args := [d], vars := [g1, g2] }
  | _ => none }
def FnExactSimplerProgramWrongFalsely : Prop := fnExactSimplerProgramRow.holds Tryz.pinned (OpenSpec.ofChange fnExactSimplerProgramWrong)

/-- 'laws.FnExactLowerProgram': WHATEVER THE INPUT: true; the input reads as it did. -/
def fnExactLowerProgramSpec : ChangeSpec := { name := "fnExactLowerProgram", vars := ["loop.example/wholeway/impl.keys", "loop.example/wholeway/impl.opSign"], fn := fun _ => fun
  | [d, g1, g2] => { results := [.lit (.bool true)], args := [d], vars := [g1, g2] }
  | _ => none }
def fnExactLowerProgramRow : OpenClaim := { program := "ythnafimjdcihlaagreatdoor", sum := "a185c83f313d33d56132871be757cdecad000e79e94e3821977333f2868066ef", func := "loop.example/wholeway/laws.FnExactLowerProgram", spec := "fnExactLowerProgram", unfollowed := true, recurses := true, named := ["loop.example/wholeway/impl.keys", "loop.example/wholeway/impl.opSign"], maps := true, loops := true, apart := false, laid := [("loop.example/wholeway/impl.keys", laid_loop_example_wholeway_impl_keys), ("loop.example/wholeway/impl.opSign", laid_loop_example_wholeway_impl_opSign)] }
def FnExactLowerProgramSaid : Prop := fnExactLowerProgramRow.holds Tryz.pinned (OpenSpec.ofChange fnExactLowerProgramSpec)

/-- ITS FALSE NEIGHBOUR: 'it returns false'. Refute it at one input. -/
def fnExactLowerProgramWrong : ChangeSpec := { name := "fnExactLowerProgram", vars := ["loop.example/wholeway/impl.keys", "loop.example/wholeway/impl.opSign"], fn := fun _ => fun
  | [d, g1, g2] => { results := [.lit (.bool false)], args := [d], vars := [g1, g2] }
  | _ => none }
def FnExactLowerProgramWrongFalsely : Prop := fnExactLowerProgramRow.holds Tryz.pinned (OpenSpec.ofChange fnExactLowerProgramWrong)

/-- 'laws.FnExactLowerExpr': WHATEVER THE INPUT: true; the input reads as it did. -/
def fnExactLowerExprSpec : ChangeSpec := { name := "fnExactLowerExpr", vars := ["loop.example/wholeway/impl.keys", "loop.example/wholeway/impl.opSign"], fn := fun _ => fun
  | [d1, d2, g1, g2] => { results := [.lit (.bool true)], args := [d1, d2], vars := [g1, g2] }
  | _ => none }
def fnExactLowerExprRow : OpenClaim := { program := "ythnafimjdcihlaagreatdoor", sum := "a185c83f313d33d56132871be757cdecad000e79e94e3821977333f2868066ef", func := "loop.example/wholeway/laws.FnExactLowerExpr", spec := "fnExactLowerExpr", unfollowed := true, recurses := true, named := ["loop.example/wholeway/impl.keys", "loop.example/wholeway/impl.opSign"], maps := true, loops := true, apart := false, laid := [("loop.example/wholeway/impl.keys", laid_loop_example_wholeway_impl_keys), ("loop.example/wholeway/impl.opSign", laid_loop_example_wholeway_impl_opSign)] }
def FnExactLowerExprSaid : Prop := fnExactLowerExprRow.holds Tryz.pinned (OpenSpec.ofChange fnExactLowerExprSpec)

/-- ITS FALSE NEIGHBOUR: 'it returns false'. Refute it at one input. -/
def fnExactLowerExprWrong : ChangeSpec := { name := "fnExactLowerExpr", vars := ["loop.example/wholeway/impl.keys", "loop.example/wholeway/impl.opSign"], fn := fun _ => fun
  | [d1, d2, g1, g2] => { results := [.lit (.bool false)], args := [d1, d2], vars := [g1, g2] }
  | _ => none }
def FnExactLowerExprWrongFalsely : Prop := fnExactLowerExprRow.holds Tryz.pinned (OpenSpec.ofChange fnExactLowerExprWrong)

/- THE SECOND FORM. 'bulk': how many values and letters a reading holds, each counted each time it is reached (what is shared counts as often as it is met; a slice's spare places count too). A statement '..UptoSaid' is the law's where the arguments, and the package variables that the reading takes, are together of bulk at most 1048576: NARROWER than '..Said'. Prove '..Said' where nothing that the law and all that it calls make is longer than what came in: it says more and counts as full. Else prove '..UptoSaid'. A law counts once. -/
mutual
def uptoBulk {H : Type} : DataW H → Nat
  | .lit (.string bytes) => bytes.length + 1
  | .lit _ => 1
  | .nil => 1
  | .ptr d => uptoBulk d + 1
  | .slice elems spare => uptoBulkAll elems + uptoBulkAll spare + 1
  | .agg parts => uptoBulkAll parts + 1
  | .iface _ d => uptoBulk d + 1
  | .map entries => uptoBulkEntries entries + 1
  | .held _ => 1
def uptoBulkAll {H : Type} : List (DataW H) → Nat
  | [] => 0
  | d :: r => uptoBulk d + uptoBulkAll r
def uptoBulkEntries {H : Type} : List (Lit × DataW H) → Nat
  | [] => 0
  | x :: r => uptoBulkEntry x + uptoBulkEntries r
def uptoBulkEntry {H : Type} : Lit × DataW H → Nat
  | (.string bytes, d) => bytes.length + uptoBulk d + 1
  | (_, d) => uptoBulk d + 1
 end
def uptoSmall : (H : Type) → List (DataW H) → Bool := fun _ ds => decide (uptoBulkAll ds ≤ 1048576)
def OpenSpec.upto (s : _root_.Go.ChangeSpec) : _root_.Go.OpenSpec := { _root_.Go.OpenSpec.ofChange s with cond := some uptoSmall }

/-- 'laws.FnSimpler', WHERE WHAT IT READS IS OF BULK AT MOST 1048576: true; the input reads as it did. -/
def fnSimplerUptoRow : OpenClaim := { program := "ythnafimjdcihlaagreatdoor", sum := "a185c83f313d33d56132871be757cdecad000e79e94e3821977333f2868066ef", func := "loop.example/wholeway/laws.FnSimpler", spec := "fnSimpler", unfollowed := true, recurses := true, named := ["loop.example/wholeway/impl.keys", "loop.example/wholeway/impl.opSign", "loop.example/wholeway/impl.tries"], maps := true, apart := false, laid := [("loop.example/wholeway/impl.keys", laid_loop_example_wholeway_impl_keys), ("loop.example/wholeway/impl.opSign", laid_loop_example_wholeway_impl_opSign), ("loop.example/wholeway/impl.tries", laid_loop_example_wholeway_impl_tries)], narrowed := true }
def FnSimplerUptoSaid : Prop := fnSimplerUptoRow.holds Tryz.pinned (OpenSpec.upto fnSimplerSpec)

/-- 'laws.FnExactDropUnneeded', WHERE WHAT IT READS IS OF BULK AT MOST 1048576: true; the input reads as it did. -/
def fnExactDropUnneededUptoRow : OpenClaim := { program := "ythnafimjdcihlaagreatdoor", sum := "a185c83f313d33d56132871be757cdecad000e79e94e3821977333f2868066ef", func := "loop.example/wholeway/laws.FnExactDropUnneeded", spec := "fnExactDropUnneeded", unfollowed := true, recurses := true, named := ["loop.example/wholeway/impl.keys", "loop.example/wholeway/impl.opSign"], maps := true, loops := true, apart := false, laid := [("loop.example/wholeway/impl.keys", laid_loop_example_wholeway_impl_keys), ("loop.example/wholeway/impl.opSign", laid_loop_example_wholeway_impl_opSign)], narrowed := true }
def FnExactDropUnneededUptoSaid : Prop := fnExactDropUnneededUptoRow.holds Tryz.pinned (OpenSpec.upto fnExactDropUnneededSpec)

/-- 'laws.FnExactSimplerProgram', WHERE WHAT IT READS IS OF BULK AT MOST 1048576: true; the input reads as it did. -/
def fnExactSimplerProgramUptoRow : OpenClaim := { program := "ythnafimjdcihlaagreatdoor", sum := "a185c83f313d33d56132871be757cdecad000e79e94e3821977333f2868066ef", func := "loop.example/wholeway/laws.FnExactSimplerProgram", spec := "fnExactSimplerProgram", unfollowed := true, recurses := true, named := ["loop.example/wholeway/impl.keys", "loop.example/wholeway/impl.opSign"], maps := true, loops := true, apart := false, laid := [("loop.example/wholeway/impl.keys", laid_loop_example_wholeway_impl_keys), ("loop.example/wholeway/impl.opSign", laid_loop_example_wholeway_impl_opSign)], narrowed := true }
def FnExactSimplerProgramUptoSaid : Prop := fnExactSimplerProgramUptoRow.holds Tryz.pinned (OpenSpec.upto fnExactSimplerProgramSpec)

/-- 'laws.FnExactLowerProgram', WHERE WHAT IT READS IS OF BULK AT MOST 1048576: true; the input reads as it did. -/
def fnExactLowerProgramUptoRow : OpenClaim := { program := "ythnafimjdcihlaagreatdoor", sum := "a185c83f313d33d56132871be757cdecad000e79e94e3821977333f2868066ef", func := "loop.example/wholeway/laws.FnExactLowerProgram", spec := "fnExactLowerProgram", unfollowed := true, recurses := true, named := ["loop.example/wholeway/impl.keys", "loop.example/wholeway/impl.opSign"], maps := true, loops := true, apart := false, laid := [("loop.example/wholeway/impl.keys", laid_loop_example_wholeway_impl_keys), ("loop.example/wholeway/impl.opSign", laid_loop_example_wholeway_impl_opSign)], narrowed := true }
def FnExactLowerProgramUptoSaid : Prop := fnExactLowerProgramUptoRow.holds Tryz.pinned (OpenSpec.upto fnExactLowerProgramSpec)

/-- 'laws.FnExactLowerExpr', WHERE WHAT IT READS IS OF BULK AT MOST 1048576: true; the input reads as it did. -/
def fnExactLowerExprUptoRow : OpenClaim := { program := "ythnafimjdcihlaagreatdoor", sum := "a185c83f313d33d56132871be757cdecad000e79e94e3821977333f2868066ef", func := "loop.example/wholeway/laws.FnExactLowerExpr", spec := "fnExactLowerExpr", unfollowed := true, recurses := true, named := ["loop.example/wholeway/impl.keys", "loop.example/wholeway/impl.opSign"], maps := true, loops := true, apart := false, laid := [("loop.example/wholeway/impl.keys", laid_loop_example_wholeway_impl_keys), ("loop.example/wholeway/impl.opSign", laid_loop_example_wholeway_impl_opSign)], narrowed := true }
def FnExactLowerExprUptoSaid : Prop := fnExactLowerExprUptoRow.holds Tryz.pinned (OpenSpec.upto fnExactLowerExprSpec)

end Rows
end Go.Proofs.YthnafimjdcihlaaGreatDoor
