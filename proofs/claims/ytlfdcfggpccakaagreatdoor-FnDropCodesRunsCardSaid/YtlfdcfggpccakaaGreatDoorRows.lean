/-
  NARROWER THAN 'FOR EVERY INPUT', by the rows' own cells (each row's printed sentence says how): FnDropReached: laid · FnOrderRuns: laid · FnSplitRuns: laid · FnLiveBehind: laid · FnDropIdle: laid · FnEvenRuns: laid · FnKnownWays: laid · FnDropCodesRuns: laid.
  DERIVED. THE GIVEN ROWS OF THIS SEAT. 8 by the template 'for every input the law returns true; each argument reads behind the call as it read before'; 0 by the template 'total and deterministic' (their statements: YtlfdcfggpccakaaGreatDoorTotals.lean).
  GIVEN WITH THE SEED: the statements are not yours to turn. If you find one false, say at which input.
  Laid BY PROGRAM, IN A SANDBOX (cutbox-rows.mjs): the forced cells as the released guide's own fill.sh prints them over the translation 2a49042443581a2d… (all of the seat's roots in one cut). By AI agents, Wed Nov 11 2026. No macro, syntax, notation, axiom, sorry.
-/
import Derived.Test.YtlfdcfggpccakaaGreatDoorChecked
import GoSem.Claim
import GoSem.ClaimJoined
import GoSem.ClaimMapViews
import Derived.JoinedTies
import Derived.KernelRfl
namespace Go.Proofs.YtlfdcfggpccakaaGreatDoor
/- THE CELL 'sum', in the pinned program and in every row, IS THE sha256 OF THE DUMP (.gsa) THAT YtlfdcfggpccakaaGreatDoorProg.lean LOADS. Nothing in Lean hashes anything: it is a label: what it is worth is what the hold of that sum in a sandbox is worth. -/
noncomputable def Tryz.pinned : Pinned := { name := "ytlfdcfggpccakaagreatdoor", sum := "2a49042443581a2dbdc4fe9542b142d2e769672be04fb04a4ce144096728c459", checked := Tryz.checked }
namespace Rows
def none {H : Type} : Left H := { results := [], args := [] }

/- WHAT THE LISTED PACKAGE-LEVEL VARIABLES READ AS WHEN THE CALL BEGINS. Each datum BY PROGRAM (the guide's laid-datum.mjs) off the statement by which the dump's own 'gosem.cut.vars' lays the variable. In a bare row this is a premise. The card (YtlfdcfggpccakaaGreatDoorCards.lean) ties it to the program's text. -/
def laid_loop_example_wholeway_impl_tries {H : Type} : DataW H := .agg [.agg [.lit (.int .i64 0), .lit (.int .i64 0), .lit (.int .i64 0)], .agg [.lit (.int .i64 1), .lit (.int .i64 2), .lit (.int .i64 3)], .agg [.lit (.int .i64 255), .lit (.int .i64 16), .lit (.int .i64 7)]]

/-- 'laws.FnDropReached': WHATEVER THE INPUT: true; the input reads as it did. -/
def fnDropReachedSpec : ChangeSpec := { name := "fnDropReached", vars := ["loop.example/wholeway/impl.tries"], fn := fun _ => fun
  | [d, g1] => { results := [.lit (.bool true)], args := [d], vars := [g1] }
  | _ => none }
def fnDropReachedRow : OpenClaim := { program := "ytlfdcfggpccakaagreatdoor", sum := "2a49042443581a2dbdc4fe9542b142d2e769672be04fb04a4ce144096728c459", func := "loop.example/wholeway/laws.FnDropReached", spec := "fnDropReached", unfollowed := true, recurses := true, named := ["loop.example/wholeway/impl.tries"], plainKeys := false, apart := false, laid := [("loop.example/wholeway/impl.tries", laid_loop_example_wholeway_impl_tries)] }
def FnDropReachedSaid : Prop := fnDropReachedRow.holds Tryz.pinned (OpenSpec.ofChange fnDropReachedSpec)

/-- ITS FALSE NEIGHBOUR: 'it returns false'. Refute it at one input. -/
def fnDropReachedWrong : ChangeSpec := { name := "fnDropReached", vars := ["loop.example/wholeway/impl.tries"], fn := fun _ => fun
  | [d, g1] => { results := [.lit (.bool false)], args := [d], vars := [g1] }
  | _ => none }
def FnDropReachedWrongFalsely : Prop := fnDropReachedRow.holds Tryz.pinned (OpenSpec.ofChange fnDropReachedWrong)

/-- 'laws.FnOrderRuns': WHATEVER THE INPUT: true; the input reads as it did. -/
def fnOrderRunsSpec : ChangeSpec := { name := "fnOrderRuns", vars := ["loop.example/wholeway/impl.tries"], fn := fun _ => fun
  | [d, g1] => { results := [.lit (.bool true)], args := [d], vars := [g1] }
  | _ => none }
def fnOrderRunsRow : OpenClaim := { program := "ytlfdcfggpccakaagreatdoor", sum := "2a49042443581a2dbdc4fe9542b142d2e769672be04fb04a4ce144096728c459", func := "loop.example/wholeway/laws.FnOrderRuns", spec := "fnOrderRuns", unfollowed := true, recurses := true, named := ["loop.example/wholeway/impl.tries"], plainKeys := false, apart := false, laid := [("loop.example/wholeway/impl.tries", laid_loop_example_wholeway_impl_tries)] }
def FnOrderRunsSaid : Prop := fnOrderRunsRow.holds Tryz.pinned (OpenSpec.ofChange fnOrderRunsSpec)

/-- ITS FALSE NEIGHBOUR: 'it returns false'. Refute it at one input. -/
def fnOrderRunsWrong : ChangeSpec := { name := "fnOrderRuns", vars := ["loop.example/wholeway/impl.tries"], fn := fun _ => fun
  | [d, g1] => { results := [.lit (.bool false)], args := [d], vars := [g1] }
  | _ => none }
def FnOrderRunsWrongFalsely : Prop := fnOrderRunsRow.holds Tryz.pinned (OpenSpec.ofChange fnOrderRunsWrong)

/-- 'laws.FnSplitRuns': WHATEVER THE INPUT: true; the input reads as it did. -/
def fnSplitRunsSpec : ChangeSpec := { name := "fnSplitRuns", vars := ["loop.example/wholeway/impl.tries"], fn := fun _ => fun
  | [d, g1] => { results := [.lit (.bool true)], args := [d], vars := [g1] }
  | _ => none }
def fnSplitRunsRow : OpenClaim := { program := "ytlfdcfggpccakaagreatdoor", sum := "2a49042443581a2dbdc4fe9542b142d2e769672be04fb04a4ce144096728c459", func := "loop.example/wholeway/laws.FnSplitRuns", spec := "fnSplitRuns", unfollowed := true, recurses := true, named := ["loop.example/wholeway/impl.tries"], plainKeys := false, apart := false, laid := [("loop.example/wholeway/impl.tries", laid_loop_example_wholeway_impl_tries)] }
def FnSplitRunsSaid : Prop := fnSplitRunsRow.holds Tryz.pinned (OpenSpec.ofChange fnSplitRunsSpec)

/-- ITS FALSE NEIGHBOUR: 'it returns false'. Refute it at one input. -/
def fnSplitRunsWrong : ChangeSpec := { name := "fnSplitRuns", vars := ["loop.example/wholeway/impl.tries"], fn := fun _ => fun
  | [d, g1] => { results := [.lit (.bool false)], args := [d], vars := [g1] }
  | _ => none }
def FnSplitRunsWrongFalsely : Prop := fnSplitRunsRow.holds Tryz.pinned (OpenSpec.ofChange fnSplitRunsWrong)

/-- 'laws.FnLiveBehind': WHATEVER THE INPUT: true; the input reads as it did. -/
def fnLiveBehindSpec : ChangeSpec := { name := "fnLiveBehind", vars := ["loop.example/wholeway/impl.tries"], fn := fun _ => fun
  | [d, g1] => { results := [.lit (.bool true)], args := [d], vars := [g1] }
  | _ => none }
def fnLiveBehindRow : OpenClaim := { program := "ytlfdcfggpccakaagreatdoor", sum := "2a49042443581a2dbdc4fe9542b142d2e769672be04fb04a4ce144096728c459", func := "loop.example/wholeway/laws.FnLiveBehind", spec := "fnLiveBehind", unfollowed := true, recurses := true, named := ["loop.example/wholeway/impl.tries"], plainKeys := false, apart := false, laid := [("loop.example/wholeway/impl.tries", laid_loop_example_wholeway_impl_tries)] }
def FnLiveBehindSaid : Prop := fnLiveBehindRow.holds Tryz.pinned (OpenSpec.ofChange fnLiveBehindSpec)

/-- ITS FALSE NEIGHBOUR: 'it returns false'. Refute it at one input. -/
def fnLiveBehindWrong : ChangeSpec := { name := "fnLiveBehind", vars := ["loop.example/wholeway/impl.tries"], fn := fun _ => fun
  | [d, g1] => { results := [.lit (.bool false)], args := [d], vars := [g1] }
  | _ => none }
def FnLiveBehindWrongFalsely : Prop := fnLiveBehindRow.holds Tryz.pinned (OpenSpec.ofChange fnLiveBehindWrong)

/-- 'laws.FnDropIdle': WHATEVER THE INPUT: true; the input reads as it did. -/
def fnDropIdleSpec : ChangeSpec := { name := "fnDropIdle", vars := ["loop.example/wholeway/impl.tries"], fn := fun _ => fun
  | [d, g1] => { results := [.lit (.bool true)], args := [d], vars := [g1] }
  | _ => none }
def fnDropIdleRow : OpenClaim := { program := "ytlfdcfggpccakaagreatdoor", sum := "2a49042443581a2dbdc4fe9542b142d2e769672be04fb04a4ce144096728c459", func := "loop.example/wholeway/laws.FnDropIdle", spec := "fnDropIdle", unfollowed := true, recurses := true, named := ["loop.example/wholeway/impl.tries"], plainKeys := false, apart := false, laid := [("loop.example/wholeway/impl.tries", laid_loop_example_wholeway_impl_tries)] }
def FnDropIdleSaid : Prop := fnDropIdleRow.holds Tryz.pinned (OpenSpec.ofChange fnDropIdleSpec)

/-- ITS FALSE NEIGHBOUR: 'it returns false'. Refute it at one input. -/
def fnDropIdleWrong : ChangeSpec := { name := "fnDropIdle", vars := ["loop.example/wholeway/impl.tries"], fn := fun _ => fun
  | [d, g1] => { results := [.lit (.bool false)], args := [d], vars := [g1] }
  | _ => none }
def FnDropIdleWrongFalsely : Prop := fnDropIdleRow.holds Tryz.pinned (OpenSpec.ofChange fnDropIdleWrong)

/-- 'laws.FnEvenRuns': WHATEVER THE INPUT: true; the input reads as it did. -/
def fnEvenRunsSpec : ChangeSpec := { name := "fnEvenRuns", vars := ["loop.example/wholeway/impl.tries"], fn := fun _ => fun
  | [d, g1] => { results := [.lit (.bool true)], args := [d], vars := [g1] }
  | _ => none }
def fnEvenRunsRow : OpenClaim := { program := "ytlfdcfggpccakaagreatdoor", sum := "2a49042443581a2dbdc4fe9542b142d2e769672be04fb04a4ce144096728c459", func := "loop.example/wholeway/laws.FnEvenRuns", spec := "fnEvenRuns", unfollowed := true, recurses := true, named := ["loop.example/wholeway/impl.tries"], plainKeys := false, apart := false, laid := [("loop.example/wholeway/impl.tries", laid_loop_example_wholeway_impl_tries)] }
def FnEvenRunsSaid : Prop := fnEvenRunsRow.holds Tryz.pinned (OpenSpec.ofChange fnEvenRunsSpec)

/-- ITS FALSE NEIGHBOUR: 'it returns false'. Refute it at one input. -/
def fnEvenRunsWrong : ChangeSpec := { name := "fnEvenRuns", vars := ["loop.example/wholeway/impl.tries"], fn := fun _ => fun
  | [d, g1] => { results := [.lit (.bool false)], args := [d], vars := [g1] }
  | _ => none }
def FnEvenRunsWrongFalsely : Prop := fnEvenRunsRow.holds Tryz.pinned (OpenSpec.ofChange fnEvenRunsWrong)

/-- 'laws.FnKnownWays': WHATEVER THE INPUT: true; the input reads as it did. -/
def fnKnownWaysSpec : ChangeSpec := { name := "fnKnownWays", vars := ["loop.example/wholeway/impl.tries"], fn := fun _ => fun
  | [d, g1] => { results := [.lit (.bool true)], args := [d], vars := [g1] }
  | _ => none }
def fnKnownWaysRow : OpenClaim := { program := "ytlfdcfggpccakaagreatdoor", sum := "2a49042443581a2dbdc4fe9542b142d2e769672be04fb04a4ce144096728c459", func := "loop.example/wholeway/laws.FnKnownWays", spec := "fnKnownWays", unfollowed := true, recurses := true, named := ["loop.example/wholeway/impl.tries"], plainKeys := false, apart := false, laid := [("loop.example/wholeway/impl.tries", laid_loop_example_wholeway_impl_tries)] }
def FnKnownWaysSaid : Prop := fnKnownWaysRow.holds Tryz.pinned (OpenSpec.ofChange fnKnownWaysSpec)

/-- ITS FALSE NEIGHBOUR: 'it returns false'. Refute it at one input. -/
def fnKnownWaysWrong : ChangeSpec := { name := "fnKnownWays", vars := ["loop.example/wholeway/impl.tries"], fn := fun _ => fun
  | [d, g1] => { results := [.lit (.bool false)], args := [d], vars := [g1] }
  | _ => none }
def FnKnownWaysWrongFalsely : Prop := fnKnownWaysRow.holds Tryz.pinned (OpenSpec.ofChange fnKnownWaysWrong)

/-- 'laws.FnDropCodesRuns': WHATEVER THE INPUT: true; the input reads as it did. -/
def fnDropCodesRunsSpec : ChangeSpec := { name := "fnDropCodesRuns", vars := ["loop.example/wholeway/impl.tries"], fn := fun _ => fun
  | [d, g1] => { results := [.lit (.bool true)], args := [d], vars := [g1] }
  | _ => none }
def fnDropCodesRunsRow : OpenClaim := { program := "ytlfdcfggpccakaagreatdoor", sum := "2a49042443581a2dbdc4fe9542b142d2e769672be04fb04a4ce144096728c459", func := "loop.example/wholeway/laws.FnDropCodesRuns", spec := "fnDropCodesRuns", unfollowed := true, recurses := true, named := ["loop.example/wholeway/impl.tries"], plainKeys := false, apart := false, laid := [("loop.example/wholeway/impl.tries", laid_loop_example_wholeway_impl_tries)] }
def FnDropCodesRunsSaid : Prop := fnDropCodesRunsRow.holds Tryz.pinned (OpenSpec.ofChange fnDropCodesRunsSpec)

/-- ITS FALSE NEIGHBOUR: 'it returns false'. Refute it at one input. -/
def fnDropCodesRunsWrong : ChangeSpec := { name := "fnDropCodesRuns", vars := ["loop.example/wholeway/impl.tries"], fn := fun _ => fun
  | [d, g1] => { results := [.lit (.bool false)], args := [d], vars := [g1] }
  | _ => none }
def FnDropCodesRunsWrongFalsely : Prop := fnDropCodesRunsRow.holds Tryz.pinned (OpenSpec.ofChange fnDropCodesRunsWrong)

/- THE SECOND FORM. 'bulk': how many values and letters a reading holds, each counted each time it is reached (what is shared counts as often as it is met; a slice's spare places count too). A statement '..UptoSaid' is the law's where the arguments, and the package variables that the reading takes, are together of bulk at most 1048576: NARROWER than '..Said'. Prove '..Said' where nothing that the law and all that it calls make is longer than what came in: it says more and counts as full. Else prove '..UptoSaid'. A law counts once. -/
mutual
def uptoBulk {H : Type} : DataW H → Nat
  | .lit (.string bytes) => bytes.length + 1
  | .lit _ => 1
  | .nil => 1
  | .ptr d => uptoBulk d + 1
  | .slice elems spare => uptoBulkAll elems + uptoBulkAll spare + 1
  | .agg parts => uptoBulkAll parts + 1
  | .iface _ d => uptoBulk d + 1
  | .map entries => uptoBulkEntries entries + 1
  | .held _ => 1
def uptoBulkAll {H : Type} : List (DataW H) → Nat
  | [] => 0
  | d :: r => uptoBulk d + uptoBulkAll r
def uptoBulkEntries {H : Type} : List (Lit × DataW H) → Nat
  | [] => 0
  | x :: r => uptoBulkEntry x + uptoBulkEntries r
def uptoBulkEntry {H : Type} : Lit × DataW H → Nat
  | (.string bytes, d) => bytes.length + uptoBulk d + 1
  | (_, d) => uptoBulk d + 1
 end
def uptoSmall : (H : Type) → List (DataW H) → Bool := fun _ ds => decide (uptoBulkAll ds ≤ 1048576)
def OpenSpec.upto (s : _root_.Go.ChangeSpec) : _root_.Go.OpenSpec := { _root_.Go.OpenSpec.ofChange s with cond := some uptoSmall }

/-- 'laws.FnDropReached', WHERE WHAT IT READS IS OF BULK AT MOST 1048576: true; the input reads as it did. -/
def fnDropReachedUptoRow : OpenClaim := { program := "ytlfdcfggpccakaagreatdoor", sum := "2a49042443581a2dbdc4fe9542b142d2e769672be04fb04a4ce144096728c459", func := "loop.example/wholeway/laws.FnDropReached", spec := "fnDropReached", unfollowed := true, recurses := true, named := ["loop.example/wholeway/impl.tries"], plainKeys := false, apart := false, laid := [("loop.example/wholeway/impl.tries", laid_loop_example_wholeway_impl_tries)], narrowed := true }
def FnDropReachedUptoSaid : Prop := fnDropReachedUptoRow.holds Tryz.pinned (OpenSpec.upto fnDropReachedSpec)

/-- 'laws.FnOrderRuns', WHERE WHAT IT READS IS OF BULK AT MOST 1048576: true; the input reads as it did. -/
def fnOrderRunsUptoRow : OpenClaim := { program := "ytlfdcfggpccakaagreatdoor", sum := "2a49042443581a2dbdc4fe9542b142d2e769672be04fb04a4ce144096728c459", func := "loop.example/wholeway/laws.FnOrderRuns", spec := "fnOrderRuns", unfollowed := true, recurses := true, named := ["loop.example/wholeway/impl.tries"], plainKeys := false, apart := false, laid := [("loop.example/wholeway/impl.tries", laid_loop_example_wholeway_impl_tries)], narrowed := true }
def FnOrderRunsUptoSaid : Prop := fnOrderRunsUptoRow.holds Tryz.pinned (OpenSpec.upto fnOrderRunsSpec)

/-- 'laws.FnSplitRuns', WHERE WHAT IT READS IS OF BULK AT MOST 1048576: true; the input reads as it did. -/
def fnSplitRunsUptoRow : OpenClaim := { program := "ytlfdcfggpccakaagreatdoor", sum := "2a49042443581a2dbdc4fe9542b142d2e769672be04fb04a4ce144096728c459", func := "loop.example/wholeway/laws.FnSplitRuns", spec := "fnSplitRuns", unfollowed := true, recurses := true, named := ["loop.example/wholeway/impl.tries"], plainKeys := false, apart := false, laid := [("loop.example/wholeway/impl.tries", laid_loop_example_wholeway_impl_tries)], narrowed := true }
def FnSplitRunsUptoSaid : Prop := fnSplitRunsUptoRow.holds Tryz.pinned (OpenSpec.upto fnSplitRunsSpec)

/-- 'laws.FnLiveBehind', WHERE WHAT IT READS IS OF BULK AT MOST 1048576: true; the input reads as it did. -/
def fnLiveBehindUptoRow : OpenClaim := { program := "ytlfdcfggpccakaagreatdoor", sum := "2a49042443581a2dbdc4fe9542b142d2e769672be04fb04a4ce144096728c459", func := "loop.example/wholeway/laws.FnLiveBehind", spec := "fnLiveBehind", unfollowed := true, recurses := true, named := ["loop.example/wholeway/impl.tries"], plainKeys := false, apart := false, laid := [("loop.example/wholeway/impl.tries", laid_loop_example_wholeway_impl_tries)], narrowed := true }
def FnLiveBehindUptoSaid : Prop := fnLiveBehindUptoRow.holds Tryz.pinned (OpenSpec.upto fnLiveBehindSpec)

/-- 'laws.FnDropIdle', WHERE WHAT IT READS IS OF BULK AT MOST 1048576: true; the input reads as it did. -/
def fnDropIdleUptoRow : OpenClaim := { program := "ytlfdcfggpccakaagreatdoor", sum := "2a49042443581a2dbdc4fe9542b142d2e769672be04fb04a4ce144096728c459", func := "loop.example/wholeway/laws.FnDropIdle", spec := "fnDropIdle", unfollowed := true, recurses := true, named := ["loop.example/wholeway/impl.tries"], plainKeys := false, apart := false, laid := [("loop.example/wholeway/impl.tries", laid_loop_example_wholeway_impl_tries)], narrowed := true }
def FnDropIdleUptoSaid : Prop := fnDropIdleUptoRow.holds Tryz.pinned (OpenSpec.upto fnDropIdleSpec)

/-- 'laws.FnEvenRuns', WHERE WHAT IT READS IS OF BULK AT MOST 1048576: true; the input reads as it did. -/
def fnEvenRunsUptoRow : OpenClaim := { program := "ytlfdcfggpccakaagreatdoor", sum := "2a49042443581a2dbdc4fe9542b142d2e769672be04fb04a4ce144096728c459", func := "loop.example/wholeway/laws.FnEvenRuns", spec := "fnEvenRuns", unfollowed := true, recurses := true, named := ["loop.example/wholeway/impl.tries"], plainKeys := false, apart := false, laid := [("loop.example/wholeway/impl.tries", laid_loop_example_wholeway_impl_tries)], narrowed := true }
def FnEvenRunsUptoSaid : Prop := fnEvenRunsUptoRow.holds Tryz.pinned (OpenSpec.upto fnEvenRunsSpec)

/-- 'laws.FnKnownWays', WHERE WHAT IT READS IS OF BULK AT MOST 1048576: true; the input reads as it did. -/
def fnKnownWaysUptoRow : OpenClaim := { program := "ytlfdcfggpccakaagreatdoor", sum := "2a49042443581a2dbdc4fe9542b142d2e769672be04fb04a4ce144096728c459", func := "loop.example/wholeway/laws.FnKnownWays", spec := "fnKnownWays", unfollowed := true, recurses := true, named := ["loop.example/wholeway/impl.tries"], plainKeys := false, apart := false, laid := [("loop.example/wholeway/impl.tries", laid_loop_example_wholeway_impl_tries)], narrowed := true }
def FnKnownWaysUptoSaid : Prop := fnKnownWaysUptoRow.holds Tryz.pinned (OpenSpec.upto fnKnownWaysSpec)

/-- 'laws.FnDropCodesRuns', WHERE WHAT IT READS IS OF BULK AT MOST 1048576: true; the input reads as it did. -/
def fnDropCodesRunsUptoRow : OpenClaim := { program := "ytlfdcfggpccakaagreatdoor", sum := "2a49042443581a2dbdc4fe9542b142d2e769672be04fb04a4ce144096728c459", func := "loop.example/wholeway/laws.FnDropCodesRuns", spec := "fnDropCodesRuns", unfollowed := true, recurses := true, named := ["loop.example/wholeway/impl.tries"], plainKeys := false, apart := false, laid := [("loop.example/wholeway/impl.tries", laid_loop_example_wholeway_impl_tries)], narrowed := true }
def FnDropCodesRunsUptoSaid : Prop := fnDropCodesRunsUptoRow.holds Tryz.pinned (OpenSpec.upto fnDropCodesRunsSpec)

end Rows
end Go.Proofs.YtlfdcfggpccakaaGreatDoor
