/-
  NARROWER THAN 'FOR EVERY INPUT', by the rows' own cells (each row's printed sentence says how): FnSkipRuns: laid · FnJoinRuns: laid · FnCleanRuns: laid · FnCleanAgain: laid.
  DERIVED. THE GIVEN ROWS OF THIS SEAT. 4 by the template 'for every input the law returns true; each argument reads behind the call as it read before'; 0 by the template 'total and deterministic' (their statements: YtchjcdooknkfpaaGreatDoorTotals.lean).
  GIVEN WITH THE SEED: the statements are not yours to turn. If you find one false, say at which input.
  Laid BY PROGRAM, IN A SANDBOX (cutbox-rows.mjs): the forced cells as the released guide's own fill.sh prints them over the translation 283e0e15eb0242ed… (all of the seat's roots in one cut). By AI agents, Wed Nov 11 2026. No macro, syntax, notation, axiom, sorry.
-/
import Derived.Test.YtchjcdooknkfpaaGreatDoorChecked
import GoSem.Claim
import GoSem.ClaimJoined
import GoSem.ClaimMapViews
import Derived.JoinedTies
import Derived.KernelRfl
namespace Go.Proofs.YtchjcdooknkfpaaGreatDoor
/- THE CELL 'sum', in the pinned program and in every row, IS THE sha256 OF THE DUMP (.gsa) THAT YtchjcdooknkfpaaGreatDoorProg.lean LOADS. Nothing in Lean hashes anything: it is a label: what it is worth is what the hold of that sum in a sandbox is worth. -/
noncomputable def Tryz.pinned : Pinned := { name := "ytchjcdooknkfpaagreatdoor", sum := "283e0e15eb0242ed01ab03ea237cf958f9e0f77532493f3c64790311473e81f8", checked := Tryz.checked }
namespace Rows
def none {H : Type} : Left H := { results := [], args := [] }

/- WHAT THE LISTED PACKAGE-LEVEL VARIABLES READ AS WHEN THE CALL BEGINS. Each datum BY PROGRAM (the guide's laid-datum.mjs) off the statement by which the dump's own 'gosem.cut.vars' lays the variable. In a bare row this is a premise. The card (YtchjcdooknkfpaaGreatDoorCards.lean) ties it to the program's text. -/
def laid_loop_example_wholeway_impl_tries {H : Type} : DataW H := .agg [.agg [.lit (.int .i64 0), .lit (.int .i64 0), .lit (.int .i64 0)], .agg [.lit (.int .i64 1), .lit (.int .i64 2), .lit (.int .i64 3)], .agg [.lit (.int .i64 255), .lit (.int .i64 16), .lit (.int .i64 7)]]

/-- 'laws.FnSkipRuns': WHATEVER THE INPUT: true; the input reads as it did. -/
def fnSkipRunsSpec : ChangeSpec := { name := "fnSkipRuns", vars := ["loop.example/wholeway/impl.tries"], fn := fun _ => fun
  | [d, g1] => { results := [.lit (.bool true)], args := [d], vars := [g1] }
  | _ => none }
def fnSkipRunsRow : OpenClaim := { program := "ytchjcdooknkfpaagreatdoor", sum := "283e0e15eb0242ed01ab03ea237cf958f9e0f77532493f3c64790311473e81f8", func := "loop.example/wholeway/laws.FnSkipRuns", spec := "fnSkipRuns", unfollowed := true, recurses := true, named := ["loop.example/wholeway/impl.tries"], apart := false, laid := [("loop.example/wholeway/impl.tries", laid_loop_example_wholeway_impl_tries)] }
def FnSkipRunsSaid : Prop := fnSkipRunsRow.holds Tryz.pinned (OpenSpec.ofChange fnSkipRunsSpec)

/-- ITS FALSE NEIGHBOUR: 'it returns false'. Refute it at one input. -/
def fnSkipRunsWrong : ChangeSpec := { name := "fnSkipRuns", vars := ["loop.example/wholeway/impl.tries"], fn := fun _ => fun
  | [d, g1] => { results := [.lit (.bool false)], args := [d], vars := [g1] }
  | _ => none }
def FnSkipRunsWrongFalsely : Prop := fnSkipRunsRow.holds Tryz.pinned (OpenSpec.ofChange fnSkipRunsWrong)

/-- 'laws.FnJoinRuns': WHATEVER THE INPUT: true; the input reads as it did. -/
def fnJoinRunsSpec : ChangeSpec := { name := "fnJoinRuns", vars := ["loop.example/wholeway/impl.tries"], fn := fun _ => fun
  | [d, g1] => { results := [.lit (.bool true)], args := [d], vars := [g1] }
  | _ => none }
def fnJoinRunsRow : OpenClaim := { program := "ytchjcdooknkfpaagreatdoor", sum := "283e0e15eb0242ed01ab03ea237cf958f9e0f77532493f3c64790311473e81f8", func := "loop.example/wholeway/laws.FnJoinRuns", spec := "fnJoinRuns", unfollowed := true, recurses := true, named := ["loop.example/wholeway/impl.tries"], apart := false, laid := [("loop.example/wholeway/impl.tries", laid_loop_example_wholeway_impl_tries)] }
def FnJoinRunsSaid : Prop := fnJoinRunsRow.holds Tryz.pinned (OpenSpec.ofChange fnJoinRunsSpec)

/-- ITS FALSE NEIGHBOUR: 'it returns false'. Refute it at one input. -/
def fnJoinRunsWrong : ChangeSpec := { name := "fnJoinRuns", vars := ["loop.example/wholeway/impl.tries"], fn := fun _ => fun
  | [d, g1] => { results := [.lit (.bool false)], args := [d], vars := [g1] }
  | _ => none }
def FnJoinRunsWrongFalsely : Prop := fnJoinRunsRow.holds Tryz.pinned (OpenSpec.ofChange fnJoinRunsWrong)

/-- 'laws.FnCleanRuns': WHATEVER THE INPUT: true; the input reads as it did. -/
def fnCleanRunsSpec : ChangeSpec := { name := "fnCleanRuns", vars := ["loop.example/wholeway/impl.tries"], fn := fun _ => fun
  | [d, g1] => { results := [.lit (.bool true)], args := [d], vars := [g1] }
  | _ => none }
def fnCleanRunsRow : OpenClaim := { program := "ytchjcdooknkfpaagreatdoor", sum := "283e0e15eb0242ed01ab03ea237cf958f9e0f77532493f3c64790311473e81f8", func := "loop.example/wholeway/laws.FnCleanRuns", spec := "fnCleanRuns", unfollowed := true, recurses := true, named := ["loop.example/wholeway/impl.tries"], apart := false, laid := [("loop.example/wholeway/impl.tries", laid_loop_example_wholeway_impl_tries)] }
def FnCleanRunsSaid : Prop := fnCleanRunsRow.holds Tryz.pinned (OpenSpec.ofChange fnCleanRunsSpec)

/-- ITS FALSE NEIGHBOUR: 'it returns false'. Refute it at one input. -/
def fnCleanRunsWrong : ChangeSpec := { name := "fnCleanRuns", vars := ["loop.example/wholeway/impl.tries"], fn := fun _ => fun
  | [d, g1] => { results := [.lit (.bool false)], args := [d], vars := [g1] }
  | _ => none }
def FnCleanRunsWrongFalsely : Prop := fnCleanRunsRow.holds Tryz.pinned (OpenSpec.ofChange fnCleanRunsWrong)

/-- 'laws.FnCleanAgain': WHATEVER THE INPUT: true; the input reads as it did. -/
def fnCleanAgainSpec : ChangeSpec := { name := "fnCleanAgain", vars := ["loop.example/wholeway/impl.tries"], fn := fun _ => fun
  | [d, g1] => { results := [.lit (.bool true)], args := [d], vars := [g1] }
  | _ => none }
def fnCleanAgainRow : OpenClaim := { program := "ytchjcdooknkfpaagreatdoor", sum := "283e0e15eb0242ed01ab03ea237cf958f9e0f77532493f3c64790311473e81f8", func := "loop.example/wholeway/laws.FnCleanAgain", spec := "fnCleanAgain", unfollowed := true, recurses := true, named := ["loop.example/wholeway/impl.tries"], apart := false, laid := [("loop.example/wholeway/impl.tries", laid_loop_example_wholeway_impl_tries)] }
def FnCleanAgainSaid : Prop := fnCleanAgainRow.holds Tryz.pinned (OpenSpec.ofChange fnCleanAgainSpec)

/-- ITS FALSE NEIGHBOUR: 'it returns false'. Refute it at one input. -/
def fnCleanAgainWrong : ChangeSpec := { name := "fnCleanAgain", vars := ["loop.example/wholeway/impl.tries"], fn := fun _ => fun
  | [d, g1] => { results := [.lit (.bool false)], args := [d], vars := [g1] }
  | _ => none }
def FnCleanAgainWrongFalsely : Prop := fnCleanAgainRow.holds Tryz.pinned (OpenSpec.ofChange fnCleanAgainWrong)

/- THE SECOND FORM. 'bulk': how many values and letters a reading holds, each counted each time it is reached (what is shared counts as often as it is met; a slice's spare places count too). A statement '..UptoSaid' is the law's where the arguments, and the package variables that the reading takes, are together of bulk at most 1048576: NARROWER than '..Said'. Prove '..Said' where nothing that the law and all that it calls make is longer than what came in: it says more and counts as full. Else prove '..UptoSaid'. A law counts once. -/
mutual
def uptoBulk {H : Type} : DataW H → Nat
  | .lit (.string bytes) => bytes.length + 1
  | .lit _ => 1
  | .nil => 1
  | .ptr d => uptoBulk d + 1
  | .slice elems spare => uptoBulkAll elems + uptoBulkAll spare + 1
  | .agg parts => uptoBulkAll parts + 1
  | .iface _ d => uptoBulk d + 1
  | .map entries => uptoBulkEntries entries + 1
  | .held _ => 1
def uptoBulkAll {H : Type} : List (DataW H) → Nat
  | [] => 0
  | d :: r => uptoBulk d + uptoBulkAll r
def uptoBulkEntries {H : Type} : List (Lit × DataW H) → Nat
  | [] => 0
  | x :: r => uptoBulkEntry x + uptoBulkEntries r
def uptoBulkEntry {H : Type} : Lit × DataW H → Nat
  | (.string bytes, d) => bytes.length + uptoBulk d + 1
  | (_, d) => uptoBulk d + 1
 end
def uptoSmall : (H : Type) → List (DataW H) → Bool := fun _ ds => decide (uptoBulkAll ds ≤ 1048576)
def OpenSpec.upto (s : _root_.Go.ChangeSpec) : _root_.Go.OpenSpec := { _root_.Go.OpenSpec.ofChange s with cond := some uptoSmall }

/-- 'laws.FnSkipRuns', WHERE WHAT IT READS IS OF BULK AT MOST 1048576: true; the input reads as it did. -/
def fnSkipRunsUptoRow : OpenClaim := { program := "ytchjcdooknkfpaagreatdoor", sum := "283e0e15eb0242ed01ab03ea237cf958f9e0f77532493f3c64790311473e81f8", func := "loop.example/wholeway/laws.FnSkipRuns", spec := "fnSkipRuns", unfollowed := true, recurses := true, named := ["loop.example/wholeway/impl.tries"], apart := false, laid := [("loop.example/wholeway/impl.tries", laid_loop_example_wholeway_impl_tries)], narrowed := true }
def FnSkipRunsUptoSaid : Prop := fnSkipRunsUptoRow.holds Tryz.pinned (OpenSpec.upto fnSkipRunsSpec)

/-- 'laws.FnJoinRuns', WHERE WHAT IT READS IS OF BULK AT MOST 1048576: true; the input reads as it did. -/
def fnJoinRunsUptoRow : OpenClaim := { program := "ytchjcdooknkfpaagreatdoor", sum := "283e0e15eb0242ed01ab03ea237cf958f9e0f77532493f3c64790311473e81f8", func := "loop.example/wholeway/laws.FnJoinRuns", spec := "fnJoinRuns", unfollowed := true, recurses := true, named := ["loop.example/wholeway/impl.tries"], apart := false, laid := [("loop.example/wholeway/impl.tries", laid_loop_example_wholeway_impl_tries)], narrowed := true }
def FnJoinRunsUptoSaid : Prop := fnJoinRunsUptoRow.holds Tryz.pinned (OpenSpec.upto fnJoinRunsSpec)

/-- 'laws.FnCleanRuns', WHERE WHAT IT READS IS OF BULK AT MOST 1048576: true; the input reads as it did. -/
def fnCleanRunsUptoRow : OpenClaim := { program := "ytchjcdooknkfpaagreatdoor", sum := "283e0e15eb0242ed01ab03ea237cf958f9e0f77532493f3c64790311473e81f8", func := "loop.example/wholeway/laws.FnCleanRuns", spec := "fnCleanRuns", unfollowed := true, recurses := true, named := ["loop.example/wholeway/impl.tries"], apart := false, laid := [("loop.example/wholeway/impl.tries", laid_loop_example_wholeway_impl_tries)], narrowed := true }
def FnCleanRunsUptoSaid : Prop := fnCleanRunsUptoRow.holds Tryz.pinned (OpenSpec.upto fnCleanRunsSpec)

/-- 'laws.FnCleanAgain', WHERE WHAT IT READS IS OF BULK AT MOST 1048576: true; the input reads as it did. -/
def fnCleanAgainUptoRow : OpenClaim := { program := "ytchjcdooknkfpaagreatdoor", sum := "283e0e15eb0242ed01ab03ea237cf958f9e0f77532493f3c64790311473e81f8", func := "loop.example/wholeway/laws.FnCleanAgain", spec := "fnCleanAgain", unfollowed := true, recurses := true, named := ["loop.example/wholeway/impl.tries"], apart := false, laid := [("loop.example/wholeway/impl.tries", laid_loop_example_wholeway_impl_tries)], narrowed := true }
def FnCleanAgainUptoSaid : Prop := fnCleanAgainUptoRow.holds Tryz.pinned (OpenSpec.upto fnCleanAgainSpec)

end Rows
end Go.Proofs.YtchjcdooknkfpaaGreatDoor
