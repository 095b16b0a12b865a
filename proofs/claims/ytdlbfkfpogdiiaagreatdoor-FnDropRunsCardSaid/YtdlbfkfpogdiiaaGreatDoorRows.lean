/-
  NARROWER THAN 'FOR EVERY INPUT', by the rows' own cells (each row's printed sentence says how): FnDropUnneeded: maps, laid · FnLowerNames: maps, laid · FnLowerCalls: maps, laid · FnTame: maps, laid · FnLowerExpr: maps, laid · FnDropRuns: maps, laid · FnLowerRuns: maps, laid · FnLowerInput: maps, laid · FnSimpler: maps, laid.
  DERIVED. THE GIVEN ROWS OF THIS SEAT. 9 by the template 'for every input the law returns true; each argument reads behind the call as it read before'; 0 by the template 'total and deterministic' (their statements: YtdlbfkfpogdiiaaGreatDoorTotals.lean).
  GIVEN WITH THE SEED: the statements are not yours to turn. If you find one false, say at which input.
  Laid BY PROGRAM, IN A SANDBOX (cutbox-rows.mjs): the forced cells as the released guide's own fill.sh prints them over the translation 8f36d4130e25b0d3… (all of the seat's roots in one cut). By AI agents, Wed Nov 11 2026. No macro, syntax, notation, axiom, sorry.
-/
import Derived.Test.YtdlbfkfpogdiiaaGreatDoorChecked
import GoSem.Claim
import GoSem.ClaimJoined
import GoSem.ClaimMapViews
import Derived.JoinedTies
import Derived.KernelRfl
namespace Go.Proofs.YtdlbfkfpogdiiaaGreatDoor
/- THE CELL 'sum', in the pinned program and in every row, IS THE sha256 OF THE DUMP (.gsa) THAT YtdlbfkfpogdiiaaGreatDoorProg.lean LOADS. Nothing in Lean hashes anything: it is a label: what it is worth is what the hold of that sum in a sandbox is worth. -/
noncomputable def Tryz.pinned : Pinned := { name := "ytdlbfkfpogdiiaagreatdoor", sum := "8f36d4130e25b0d3eac3644f56f6e80a22071bf17261d80663de84ee10078daf", checked := Tryz.checked }
namespace Rows
def none {H : Type} : Left H := { results := [], args := [] }

/- WHAT THE LISTED PACKAGE-LEVEL VARIABLES READ AS WHEN THE CALL BEGINS. Each datum BY PROGRAM (the guide's laid-datum.mjs) off the statement by which the dump's own 'gosem.cut.vars' lays the variable. In a bare row this is a premise. The card (YtdlbfkfpogdiiaaGreatDoorCards.lean) ties it to the program's text. -/
def laid_loop_example_wholeway_impl_keys {H : Type} : DataW H := .agg [.lit (.string [102, 110]), .lit (.string [108, 101, 116]), .lit (.string [115, 97, 121]), .lit (.string [112, 117, 116]), .lit (.string [105, 102]), .lit (.string [101, 108, 115, 101]), .lit (.string [108, 111, 111, 112]), .lit (.string [98, 97, 99, 107]), .lit (.string [100, 111])]
def laid_loop_example_wholeway_impl_opSign {H : Type} : DataW H := .map [(.int .i64 3, .agg [.lit (.string [43]), .lit (.int .i64 3)]), (.int .i64 4, .agg [.lit (.string [45]), .lit (.int .i64 3)]), (.int .i64 5, .agg [.lit (.string [42]), .lit (.int .i64 4)]), (.int .i64 6, .agg [.lit (.string [47]), .lit (.int .i64 4)]), (.int .i64 7, .agg [.lit (.string [37]), .lit (.int .i64 4)]), (.int .i64 8, .agg [.lit (.string [60]), .lit (.int .i64 2)]), (.int .i64 9, .agg [.lit (.string [61]), .lit (.int .i64 2)]), (.int .i64 10, .agg [.lit (.string [38]), .lit (.int .i64 1)])]
def laid_loop_example_wholeway_impl_tries {H : Type} : DataW H := .agg [.agg [.lit (.int .i64 0), .lit (.int .i64 0), .lit (.int .i64 0)], .agg [.lit (.int .i64 1), .lit (.int .i64 2), .lit (.int .i64 3)], .agg [.lit (.int .i64 255), .lit (.int .i64 16), .lit (.int .i64 7)]]

/-- 'laws.FnDropUnneeded': WHATEVER THE INPUT: true; the input reads as it did. -/
def fnDropUnneededSpec : ChangeSpec := { name := "fnDropUnneeded", vars := ["loop.example/wholeway/impl.keys", "loop.example/wholeway/impl.opSign"], fn := fun _ => fun
  | [d, g1, g2] => { results := [.lit (.bool true)], args := [d], vars := [g1, g2] }
  | _ => none }
def fnDropUnneededRow : OpenClaim := { program := "ytdlbfkfpogdiiaagreatdoor", sum := "8f36d4130e25b0d3eac3644f56f6e80a22071bf17261d80663de84ee10078daf", func := "loop.example/wholeway/laws.FnDropUnneeded", spec := "fnDropUnneeded", unfollowed := true, recurses := true, named := ["loop.example/wholeway/impl.keys", "loop.example/wholeway/impl.opSign"], maps := true, apart := false, laid := [("loop.example/wholeway/impl.keys", laid_loop_example_wholeway_impl_keys), ("loop.example/wholeway/impl.opSign", laid_loop_example_wholeway_impl_opSign)] }
def FnDropUnneededSaid : Prop := fnDropUnneededRow.holds Tryz.pinned (OpenSpec.ofChange fnDropUnneededSpec)

/-- ITS FALSE NEIGHBOUR: 'it returns false'. Refute it at one input. -/
def fnDropUnneededWrong : ChangeSpec := { name := "fnDropUnneeded", vars := ["loop.example/wholeway/impl.keys", "loop.example/wholeway/impl.opSign"], fn := fun _ => fun
  | [d, g1, g2] => { results := [.lit (.bool false)], args := [d], vars := [g1, g2] }
  | _ => none }
def FnDropUnneededWrongFalsely : Prop := fnDropUnneededRow.holds Tryz.pinned (OpenSpec.ofChange fnDropUnneededWrong)

/-- 'laws.FnLowerNames': WHATEVER THE INPUT: true; the input reads as it did. -/
def fnLowerNamesSpec : ChangeSpec := { name := "fnLowerNames", vars := ["loop.example/wholeway/impl.keys", "loop.example/wholeway/impl.opSign"], fn := fun _ => fun
  | [d, g1, g2] => { results := [.lit (.bool true)], args := [d], vars := [g1, g2] }
  | _ => none }
def fnLowerNamesRow : OpenClaim := { program := "ytdlbfkfpogdiiaagreatdoor", sum := "8f36d4130e25b0d3eac3644f56f6e80a22071bf17261d80663de84ee10078daf", func := "loop.example/wholeway/laws.FnLowerNames", spec := "fnLowerNames", unfollowed := true, recurses := true, named := ["loop.example/wholeway/impl.keys", "loop.example/wholeway/impl.opSign"], maps := true, apart := false, laid := [("loop.example/wholeway/impl.keys", laid_loop_example_wholeway_impl_keys), ("loop.example/wholeway/impl.opSign", laid_loop_example_wholeway_impl_opSign)] }
def FnLowerNamesSaid : Prop := fnLowerNamesRow.holds Tryz.pinned (OpenSpec.ofChange fnLowerNamesSpec)

/-- ITS FALSE NEIGHBOUR: 'it returns false'. Refute it at one input. -/
def fnLowerNamesWrong : ChangeSpec := { name := "fnLowerNames", vars := ["loop.example/wholeway/impl.keys", "loop.example/wholeway/impl.opSign"], fn := fun _ => fun
  | [d, g1, g2] => { results := [.lit (.bool false)], args := [d], vars := [g1, g2] }
  | _ => none }
def FnLowerNamesWrongFalsely : Prop := fnLowerNamesRow.holds Tryz.pinned (OpenSpec.ofChange fnLowerNamesWrong)

/-- 'laws.FnLowerCalls': WHATEVER THE INPUT: true; the input reads as it did. -/
def fnLowerCallsSpec : ChangeSpec := { name := "fnLowerCalls", vars := ["loop.example/wholeway/impl.keys", "loop.example/wholeway/impl.opSign"], fn := fun _ => fun
  | [d, g1, g2] => { results := [.lit (.bool true)], args := [d], vars := [g1, g2] }
  | _ => none }
def fnLowerCallsRow : OpenClaim := { program := "ytdlbfkfpogdiiaagreatdoor", sum := "8f36d4130e25b0d3eac3644f56f6e80a22071bf17261d80663de84ee10078daf", func := "loop.example/wholeway/laws.FnLowerCalls", spec := "fnLowerCalls", unfollowed := true, recurses := true, named := ["loop.example/wholeway/impl.keys", "loop.example/wholeway/impl.opSign"], maps := true, apart := false, laid := [("loop.example/wholeway/impl.keys", laid_loop_example_wholeway_impl_keys), ("loop.example/wholeway/impl.opSign", laid_loop_example_wholeway_impl_opSign)] }
def FnLowerCallsSaid : Prop := fnLowerCallsRow.holds Tryz.pinned (OpenSpec.ofChange fnLowerCallsSpec)

/-- ITS FALSE NEIGHBOUR: 'it returns false'. Refute it at one input. -/
def fnLowerCallsWrong : ChangeSpec := { name := "fnLowerCalls", vars := ["loop.example/wholeway/impl.keys", "loop.example/wholeway/impl.opSign"], fn := fun _ => fun
  | [d, g1, g2] => { results := [.lit (.bool false)], args := [d], vars := [g1, g2] }
  | _ => none }
def FnLowerCallsWrongFalsely : Prop := fnLowerCallsRow.holds Tryz.pinned (OpenSpec.ofChange fnLowerCallsWrong)

/-- 'laws.FnTame': WHATEVER THE INPUT: true; the input reads as it did. -/
def fnTameSpec : ChangeSpec := { name := "fnTame", vars := ["loop.example/wholeway/impl.keys", "loop.example/wholeway/impl.opSign"], fn := fun _ => fun
  | [d1, d2, g1, g2] => { results := [.lit (.bool true)], args := [d1, d2], vars := [g1, g2] }
  | _ => none }
def fnTameRow : OpenClaim := { program := "ytdlbfkfpogdiiaagreatdoor", sum := "8f36d4130e25b0d3eac3644f56f6e80a22071bf17261d80663de84ee10078daf", func := "loop.example/wholeway/laws.FnTame", spec := "fnTame", unfollowed := true, recurses := true, named := ["loop.example/wholeway/impl.keys", "loop.example/wholeway/impl.opSign"], maps := true, apart := false, laid := [("loop.example/wholeway/impl.keys", laid_loop_example_wholeway_impl_keys), ("loop.example/wholeway/impl.opSign", laid_loop_example_wholeway_impl_opSign)] }
def FnTameSaid : Prop := fnTameRow.holds Tryz.pinned (OpenSpec.ofChange fnTameSpec)

/-- ITS FALSE NEIGHBOUR: 'it returns false'. Refute it at one input. -/
def fnTameWrong : ChangeSpec := { name := "fnTame", vars := ["loop.example/wholeway/impl.keys", "loop.example/wholeway/impl.opSign"], fn := fun _ => fun
  | [d1, d2, g1, g2] => { results := [.lit (.bool false)], args := [d1, d2], vars := [g1, g2] }
  | _ => none }
def FnTameWrongFalsely : Prop := fnTameRow.holds Tryz.pinned (OpenSpec.ofChange fnTameWrong)

/-- 'laws.FnLowerExpr': WHATEVER THE INPUT: true; the input reads as it did. -/
def fnLowerExprSpec : ChangeSpec := { name := "fnLowerExpr", vars := ["loop.example/wholeway/impl.keys", "loop.example/wholeway/impl.opSign", "loop.example/wholeway/impl.tries"], fn := fun _ => fun
  | [d, g1, g2, g3] => { results := [.lit (.bool true)], args := [d], vars := [g1, g2, g3] }
  | _ => none }
def fnLowerExprRow : OpenClaim := { program := "ytdlbfkfpogdiiaagreatdoor", sum := "8f36d4130e25b0d3eac3644f56f6e80a22071bf17261d80663de84ee10078daf", func := "loop.example/wholeway/laws.FnLowerExpr", spec := "fnLowerExpr", unfollowed := true, recurses := true, named := ["loop.example/wholeway/impl.keys", "loop.example/wholeway/impl.opSign", "loop.example/wholeway/impl.tries"], maps := true, apart := false, laid := [("loop.example/wholeway/impl.keys", laid_loop_example_wholeway_impl_keys), ("loop.example/wholeway/impl.opSign", laid_loop_example_wholeway_impl_opSign), ("loop.example/wholeway/impl.tries", laid_loop_example_wholeway_impl_tries)] }
def FnLowerExprSaid : Prop := fnLowerExprRow.holds Tryz.pinned (OpenSpec.ofChange fnLowerExprSpec)

/-- ITS FALSE NEIGHBOUR: 'it returns false'. Refute it at one input. -/
def fnLowerExprWrong : ChangeSpec := { name := "fnLowerExpr", vars := ["loop.example/wholeway/impl.keys", "loop.example/wholeway/impl.opSign", "loop.example/wholeway/impl.tries"], fn := fun _ => fun
  | [d, g1, g2, g3] => { results := [.lit (.bool false)], args := [d], vars := [g1, g2, g3] }
  | _ => none }
def FnLowerExprWrongFalsely : Prop := fnLowerExprRow.holds Tryz.pinned (OpenSpec.ofChange fnLowerExprWrong)

/-- 'laws.FnDropRuns': WHATEVER THE INPUT: true; the input reads as it did. -/
def fnDropRunsSpec : ChangeSpec := { name := "fnDropRuns", vars := ["loop.example/wholeway/impl.keys", "loop.example/wholeway/impl.opSign"], fn := fun _ => fun
  | [d, g1, g2] => { results := [.lit (.bool true)], args := [d], vars := [g1, g2] }
  | _ => none }
def fnDropRunsRow : OpenClaim := { program := "ytdlbfkfpogdiiaagreatdoor", sum := "8f36d4130e25b0d3eac3644f56f6e80a22071bf17261d80663de84ee10078daf", func := "loop.example/wholeway/laws.FnDropRuns", spec := "fnDropRuns", unfollowed := true, recurses := true, named := ["loop.example/wholeway/impl.keys", "loop.example/wholeway/impl.opSign"], maps := true, apart := false, laid := [("loop.example/wholeway/impl.keys", laid_loop_example_wholeway_impl_keys), ("loop.example/wholeway/impl.opSign", laid_loop_example_wholeway_impl_opSign)] }
def FnDropRunsSaid : Prop := fnDropRunsRow.holds Tryz.pinned (OpenSpec.ofChange fnDropRunsSpec)

/-- ITS FALSE NEIGHBOUR: 'it returns false'. Refute it at one input. -/
def fnDropRunsWrong : ChangeSpec := { name := "fnDropRuns", vars := ["loop.example/wholeway/impl.keys", "loop.example/wholeway/impl.opSign"], fn := fun _ => fun
  | [d, g1, g2] => { results := [.lit (.bool false)], args := [d], vars := [g1, g2] }
  | _ => none }
def FnDropRunsWrongFalsely : Prop := fnDropRunsRow.holds Tryz.pinned (OpenSpec.ofChange fnDropRunsWrong)

/-- 'laws.FnLowerRuns': WHATEVER THE INPUT: true; the input reads as it did. -/
def fnLowerRunsSpec : ChangeSpec := { name := "fnLowerRuns", vars := ["loop.example/wholeway/impl.keys", "loop.example/wholeway/impl.opSign", "loop.example/wholeway/impl.tries"], fn := fun _ => fun
  | [d, g1, g2, g3] => { results := [.lit (.bool true)], args := [d], vars := [g1, g2, g3] }
  | _ => none }
def fnLowerRunsRow : OpenClaim := { program := "ytdlbfkfpogdiiaagreatdoor", sum := "8f36d4130e25b0d3eac3644f56f6e80a22071bf17261d80663de84ee10078daf", func := "loop.example/wholeway/laws.FnLowerRuns", spec := "fnLowerRuns", unfollowed := true, recurses := true, named := ["loop.example/wholeway/impl.keys", "loop.example/wholeway/impl.opSign", "loop.example/wholeway/impl.tries"], maps := true, apart := false, laid := [("loop.example/wholeway/impl.keys", laid_loop_example_wholeway_impl_keys), ("loop.example/wholeway/impl.opSign", laid_loop_example_wholeway_impl_opSign), ("loop.example/wholeway/impl.tries", laid_loop_example_wholeway_impl_tries)] }
def FnLowerRunsSaid : Prop := fnLowerRunsRow.holds Tryz.pinned (OpenSpec.ofChange fnLowerRunsSpec)

/-- ITS FALSE NEIGHBOUR: 'it returns false'. Refute it at one input. -/
def fnLowerRunsWrong : ChangeSpec := { name := "fnLowerRuns", vars := ["loop.example/wholeway/impl.keys", "loop.example/wholeway/impl.opSign", "loop.example/wholeway/impl.tries"], fn := fun _ => fun
  | [d, g1, g2, g3] => { results := [.lit (.bool false)], args := [d], vars := [g1, g2, g3] }
  | _ => none }
def FnLowerRunsWrongFalsely : Prop := fnLowerRunsRow.holds Tryz.pinned (OpenSpec.ofChange fnLowerRunsWrong)

/-- 'laws.FnLowerInput': WHATEVER THE INPUT: true; the input reads as it did. -/
def fnLowerInputSpec : ChangeSpec := { name := "fnLowerInput", vars := ["loop.example/wholeway/impl.keys", "loop.example/wholeway/impl.opSign"], fn := fun _ => fun
  | [d, g1, g2] => { results := [.lit (.bool true)], args := [d], vars := [g1, g2] }
  | _ => none }
def fnLowerInputRow : OpenClaim := { program := "ytdlbfkfpogdiiaagreatdoor", sum := "8f36d4130e25b0d3eac3644f56f6e80a22071bf17261d80663de84ee10078daf", func := "loop.example/wholeway/laws.FnLowerInput", spec := "fnLowerInput", unfollowed := true, recurses := true, named := ["loop.example/wholeway/impl.keys", "loop.example/wholeway/impl.opSign"], maps := true, apart := false, laid := [("loop.example/wholeway/impl.keys", laid_loop_example_wholeway_impl_keys), ("loop.example/wholeway/impl.opSign", laid_loop_example_wholeway_impl_opSign)] }
def FnLowerInputSaid : Prop := fnLowerInputRow.holds Tryz.pinned (OpenSpec.ofChange fnLowerInputSpec)

/-- ITS FALSE NEIGHBOUR: 'it returns false'. Refute it at one input. -/
def fnLowerInputWrong : ChangeSpec := { name := "fnLowerInput", vars := ["loop.example/wholeway/impl.keys", "loop.example/wholeway/impl.opSign"], fn := fun _ => fun
  | [d, g1, g2] => { results := [.lit (.bool false)], args := [d], vars := [g1, g2] }
  | _ => none }
def FnLowerInputWrongFalsely : Prop := fnLowerInputRow.holds Tryz.pinned (OpenSpec.ofChange fnLowerInputWrong)

/-- 'laws.FnSimpler': WHATEVER THE INPUT: true; the input reads as it did. -/
def fnSimplerSpec : ChangeSpec := { name := "fnSimpler", vars := ["loop.example/wholeway/impl.keys", "loop.example/wholeway/impl.opSign", "loop.example/wholeway/impl.tries"], fn := fun _ => fun
  | [d, g1, g2, g3] => { results := [.lit (.bool true)], args := [d], vars := [g1, g2, g3] }
  | _ => none }
def fnSimplerRow : OpenClaim := { program := "ytdlbfkfpogdiiaagreatdoor", sum := "8f36d4130e25b0d3eac3644f56f6e80a22071bf17261d80663de84ee10078daf", func := "loop.example/wholeway/laws.FnSimpler", spec := "fnSimpler", unfollowed := true, recurses := true, named := ["loop.example/wholeway/impl.keys", "loop.example/wholeway/impl.opSign", "loop.example/wholeway/impl.tries"], maps := true, apart := false, laid := [("loop.example/wholeway/impl.keys", laid_loop_example_wholeway_impl_keys), ("loop.example/wholeway/impl.opSign", laid_loop_example_wholeway_impl_opSign), ("loop.example/wholeway/impl.tries", laid_loop_example_wholeway_impl_tries)] }
def FnSimplerSaid : Prop := fnSimplerRow.holds Tryz.pinned (OpenSpec.ofChange fnSimplerSpec)

/-- ITS FALSE NEIGHBOUR: 'it returns false'. Refute it at one input. -/
def fnSimplerWrong : ChangeSpec := { name := "fnSimpler", vars := ["loop.example/wholeway/impl.keys", "loop.example/wholeway/impl.opSign", "loop.example/wholeway/impl.tries"], fn := fun _ => fun
  | [d, g1, g2, g3] => { results := [.lit (.bool false)], args := [d], vars := [g1, g2, g3] }
  | _ => none }
def FnSimplerWrongFalsely : Prop := fnSimplerRow.holds Tryz.pinned (OpenSpec.ofChange fnSimplerWrong)

/- THE SECOND FORM. 'bulk': how many values and letters a reading holds, each counted each time it is reached (what is shared counts as often as it is met; a slice's spare places count too). A statement '..UptoSaid' is the law's where the arguments, and the package variables that the reading takes, are together of bulk at most 1048576: NARROWER than '..Said'. Prove '..Said' where nothing that the law and all that it calls make is longer than what came in: it says more and counts as full. Else prove '..UptoSaid'. A law counts once. -/
mutual
def uptoBulk {H : Type} : DataW H → Nat
  | .lit (.string bytes) => bytes.length + 1
  | .lit _ => 1
  | .nil => 1
  | .ptr d => uptoBulk d + 1
  | .slice elems spare => uptoBulkAll elems + uptoBulkAll spare + 1
  | .agg parts => uptoBulkAll parts + 1
  | .iface _ d => uptoBulk d + 1
  | .map entries => uptoBulkEntries entries + 1
  | .held _ => 1
def uptoBulkAll {H : Type} : List (DataW H) → Nat
  | [] => 0
  | d :: r => uptoBulk d + uptoBulkAll r
def uptoBulkEntries {H : Type} : List (Lit × DataW H) → Nat
  | [] => 0
  | x :: r => uptoBulkEntry x + uptoBulkEntries r
def uptoBulkEntry {H : Type} : Lit × DataW H → Nat
  | (.string bytes, d) => bytes.length + uptoBulk d + 1
  | (_, d) => uptoBulk d + 1
 end
def uptoSmall : (H : Type) → List (DataW H) → Bool := fun _ ds => decide (uptoBulkAll ds ≤ 1048576)
def OpenSpec.upto (s : _root_.Go.ChangeSpec) : _root_.Go.OpenSpec := { _root_.Go.OpenSpec.ofChange s with cond := some uptoSmall }

/-- 'laws.FnDropUnneeded', WHERE WHAT IT READS IS OF BULK AT MOST 1048576: true; the input reads as it did. -/
def fnDropUnneededUptoRow : OpenClaim := { program := "ytdlbfkfpogdiiaagreatdoor", sum := "8f36d4130e25b0d3eac3644f56f6e80a22071bf17261d80663de84ee10078daf", func := "loop.example/wholeway/laws.FnDropUnneeded", spec := "fnDropUnneeded", unfollowed := true, recurses := true, named := ["loop.example/wholeway/impl.keys", "loop.example/wholeway/impl.opSign"], maps := true, apart := false, laid := [("loop.example/wholeway/impl.keys", laid_loop_example_wholeway_impl_keys), ("loop.example/wholeway/impl.opSign", laid_loop_example_wholeway_impl_opSign)], narrowed := true }
def FnDropUnneededUptoSaid : Prop := fnDropUnneededUptoRow.holds Tryz.pinned (OpenSpec.upto fnDropUnneededSpec)

/-- 'laws.FnLowerNames', WHERE WHAT IT READS IS OF BULK AT MOST 1048576: true; the input reads as it did. -/
def fnLowerNamesUptoRow : OpenClaim := { program := "ytdlbfkfpogdiiaagreatdoor", sum := "8f36d4130e25b0d3eac3644f56f6e80a22071bf17261d80663de84ee10078daf", func := "loop.example/wholeway/laws.FnLowerNames", spec := "fnLowerNames", unfollowed := true, recurses := true, named := ["loop.example/wholeway/impl.keys", "loop.example/wholeway/impl.opSign"], maps := true, apart := false, laid := [("loop.example/wholeway/impl.keys", laid_loop_example_wholeway_impl_keys), ("loop.example/wholeway/impl.opSign", laid_loop_example_wholeway_impl_opSign)], narrowed := true }
def FnLowerNamesUptoSaid : Prop := fnLowerNamesUptoRow.holds Tryz.pinned (OpenSpec.upto fnLowerNamesSpec)

/-- 'laws.FnLowerCalls', WHERE WHAT IT READS IS OF BULK AT MOST 1048576: true; the input reads as it did. -/
def fnLowerCallsUptoRow : OpenClaim := { program := "ytdlbfkfpogdiiaagreatdoor", sum := "8f36d4130e25b0d3eac3644f56f6e80a22071bf17261d80663de84ee10078daf", func := "loop.example/wholeway/laws.FnLowerCalls", spec := "fnLowerCalls", unfollowed := true, recurses := true, named := ["loop.example/wholeway/impl.keys", "loop.example/wholeway/impl.opSign"], maps := true, apart := false, laid := [("loop.example/wholeway/impl.keys", laid_loop_example_wholeway_impl_keys), ("loop.example/wholeway/impl.opSign", laid_loop_example_wholeway_impl_opSign)], narrowed := true }
def FnLowerCallsUptoSaid : Prop := fnLowerCallsUptoRow.holds Tryz.pinned (OpenSpec.upto fnLowerCallsSpec)

/-- 'laws.FnTame', WHERE WHAT IT READS IS OF BULK AT MOST 1048576: true; the input reads as it did. -/
def fnTameUptoRow : OpenClaim := { program := "ytdlbfkfpogdiiaagreatdoor", sum := "8f36d4130e25b0d3eac3644f56f6e80a22071bf17261d80663de84ee10078daf", func := "loop.example/wholeway/laws.FnTame", spec := "fnTame", unfollowed := true, recurses := true, named := ["loop.example/wholeway/impl.keys", "loop.example/wholeway/impl.opSign"], maps := true, apart := false, laid := [("loop.example/wholeway/impl.keys", laid_loop_example_wholeway_impl_keys), ("loop.example/wholeway/impl.opSign", laid_loop_example_wholeway_impl_opSign)], narrowed := true }
def FnTameUptoSaid : Prop := fnTameUptoRow.holds Tryz.pinned (OpenSpec.upto fnTameSpec)

/-- 'laws.FnLowerExpr', WHERE WHAT IT READS IS OF BULK AT MOST 1048576: true; the input reads as it did. -/
def fnLowerExprUptoRow : OpenClaim := { program := "ytdlbfkfpogdiiaagreatdoor", sum := "8f36d4130e25b0d3eac3644f56f6e80a22071bf17261d80663de84ee10078daf", func := "loop.example/wholeway/laws.FnLowerExpr", spec := "fnLowerExpr", unfollowed := true, recurses := true, named := ["loop.example/wholeway/impl.keys", "loop.example/wholeway/impl.opSign", "loop.example/wholeway/impl.tries"], maps := true, apart := false, laid := [("loop.example/wholeway/impl.keys", laid_loop_example_wholeway_impl_keys), ("loop.example/wholeway/impl.opSign", laid_loop_example_wholeway_impl_opSign), ("loop.example/wholeway/impl.tries", laid_loop_example_wholeway_impl_tries)], narrowed := true }
def FnLowerExprUptoSaid : Prop := fnLowerExprUptoRow.holds Tryz.pinned (OpenSpec.upto fnLowerExprSpec)

/-- 'laws.FnDropRuns', WHERE WHAT IT READS IS OF BULK AT MOST 1048576: true; the input reads as it did. -/
def fnDropRunsUptoRow : OpenClaim := { program := "ytdlbfkfpogdiiaagreatdoor", sum := "8f36d4130e25b0d3eac3644f56f6e80a22071bf17261d80663de84ee10078daf", func := "loop.example/wholeway/laws.FnDropRuns", spec := "fnDropRuns", unfollowed := true, recurses := true, named := ["loop.example/wholeway/impl.keys", "loop.example/wholeway/impl.opSign"], maps := true, apart := false, laid := [("loop.example/wholeway/impl.keys", laid_loop_example_wholeway_impl_keys), ("loop.example/wholeway/impl.opSign", laid_loop_example_wholeway_impl_opSign)], narrowed := true }
def FnDropRunsUptoSaid : Prop := fnDropRunsUptoRow.holds Tryz.pinned (OpenSpec.upto fnDropRunsSpec)

/-- 'laws.FnLowerRuns', WHERE WHAT IT READS IS OF BULK AT MOST 1048576: true; the input reads as it did. -/
def fnLowerRunsUptoRow : OpenClaim := { program := "ytdlbfkfpogdiiaagreatdoor", sum := "8f36d4130e25b0d3eac3644f56f6e80a22071bf17261d80663de84ee10078daf", func := "loop.example/wholeway/laws.FnLowerRuns", spec := "fnLowerRuns", unfollowed := true, recurses := true, named := ["loop.example/wholeway/impl.keys", "loop.example/wholeway/impl.opSign", "loop.example/wholeway/impl.tries"], maps := true, apart := false, laid := [("loop.example/wholeway/impl.keys", laid_loop_example_wholeway_impl_keys), ("loop.example/wholeway/impl.opSign", laid_loop_example_wholeway_impl_opSign), ("loop.example/wholeway/impl.tries", laid_loop_example_wholeway_impl_tries)], narrowed := true }
def FnLowerRunsUptoSaid : Prop := fnLowerRunsUptoRow.holds Tryz.pinned (OpenSpec.upto fnLowerRunsSpec)

/-- 'laws.FnLowerInput', WHERE WHAT IT READS IS OF BULK AT MOST 1048576: true; the input reads as it did. -/
def fnLowerInputUptoRow : OpenClaim := { program := "ytdlbfkfpogdiiaagreatdoor", sum := "8f36d4130e25b0d3eac3644f56f6e80a22071bf17261d80663de84ee10078daf", func := "loop.example/wholeway/laws.FnLowerInput", spec := "fnLowerInput", unfollowed := true, recurses := true, named := ["loop.example/wholeway/impl.keys", "loop.example/wholeway/impl.opSign"], maps := true, apart := false, laid := [("loop.example/wholeway/impl.keys", laid_loop_example_wholeway_impl_keys), ("loop.example/wholeway/impl.opSign", laid_loop_example_wholeway_impl_opSign)], narrowed := true }
def FnLowerInputUptoSaid : Prop := fnLowerInputUptoRow.holds Tryz.pinned (OpenSpec.upto fnLowerInputSpec)

/-- 'laws.FnSimpler', WHERE WHAT IT READS IS OF BULK AT MOST 1048576: true; the input reads as it did. -/
def fnSimplerUptoRow : OpenClaim := { program := "ytdlbfkfpogdiiaagreatdoor", sum := "8f36d4130e25b0d3eac3644f56f6e80a22071bf17261d80663de84ee10078daf", func := "loop.example/wholeway/laws.FnSimpler", spec := "fnSimpler", unfollowed := true, recurses := true, named := ["loop.example/wholeway/impl.keys", "loop.example/wholeway/impl.opSign", "loop.example/wholeway/impl.tries"], maps := true, apart := false, laid := [("loop.example/wholeway/impl.keys", laid_loop_example_wholeway_impl_keys), ("loop.example/wholeway/impl.opSign", laid_loop_example_wholeway_impl_opSign), ("loop.example/wholeway/impl.tries", laid_loop_example_wholeway_impl_tries)], narrowed := true }
def FnSimplerUptoSaid : Prop := fnSimplerUptoRow.holds Tryz.pinned (OpenSpec.upto fnSimplerSpec)

end Rows
end Go.Proofs.YtdlbfkfpogdiiaaGreatDoor
