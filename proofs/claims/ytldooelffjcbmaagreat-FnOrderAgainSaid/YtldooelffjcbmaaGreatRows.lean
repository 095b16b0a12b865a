/-
  No cell of these rows narrows 'for every input' (looked for: loops, veiled, ifaces, maps, wideKeys, modest, calm, conditions, laid).
  DERIVED. THE GIVEN ROWS OF THIS SEAT. 11 by the template 'for every input the law returns true; each argument reads behind the call as it read before'; 0 by the template 'total and deterministic' (their statements: YtldooelffjcbmaaGreatTotals.lean).
  GIVEN WITH THE SEED: the statements are not yours to turn. If you find one false, say at which input.
  Laid BY PROGRAM, IN A SANDBOX (cutbox-rows.mjs): the forced cells as the released guide's own fill.sh prints them over the translation 44631ada31685665… (all of the seat's roots in one cut). By AI agents, Wed Nov 11 2026. No macro, syntax, notation, axiom, sorry.
-/
import Derived.Test.YtldooelffjcbmaaGreatChecked
import GoSem.Claim
import GoSem.ClaimJoined
import GoSem.ClaimMapViews
import Derived.JoinedTies
import Derived.KernelRfl
namespace Go.Proofs.YtldooelffjcbmaaGreat
/- THE CELL 'sum', in the pinned program and in every row, IS THE sha256 OF THE DUMP (.gsa) THAT YtldooelffjcbmaaGreatProg.lean LOADS. Nothing in Lean hashes anything: it is a label: what it is worth is what the hold of that sum in a sandbox is worth. -/
noncomputable def Tryz.pinned : Pinned := { name := "ytldooelffjcbmaagreat", sum := "44631ada316856658e8075d36929bc07f0cff66d77cb777cab55409d1bbfbea0", checked := Tryz.checked }
namespace Rows
def none {H : Type} : Left H := { results := [], args := [] }

/-- 'laws.FnCodesNeeded': WHATEVER THE INPUT: true; the input reads as it did. -/
def fnCodesNeededSpec : ChangeSpec := { name := "fnCodesNeeded", fn := fun _ => fun
  | [d] => { results := [.lit (.bool true)], args := [d] }
  | _ => none }
def fnCodesNeededRow : OpenClaim := { program := "ytldooelffjcbmaagreat", sum := "44631ada316856658e8075d36929bc07f0cff66d77cb777cab55409d1bbfbea0", func := "loop.example/wholeway/laws.FnCodesNeeded", spec := "fnCodesNeeded", unfollowed := true, recurses := true, apart := false }
def FnCodesNeededSaid : Prop := fnCodesNeededRow.holds Tryz.pinned (OpenSpec.ofChange fnCodesNeededSpec)

/-- ITS FALSE NEIGHBOUR: 'it returns false'. Refute it at one input. -/
def fnCodesNeededWrong : ChangeSpec := { name := "fnCodesNeeded", fn := fun _ => fun
  | [d] => { results := [.lit (.bool false)], args := [d] }
  | _ => none }
def FnCodesNeededWrongFalsely : Prop := fnCodesNeededRow.holds Tryz.pinned (OpenSpec.ofChange fnCodesNeededWrong)

/-- 'laws.FnDropCodesAgain': WHATEVER THE INPUT: true; the input reads as it did. -/
def fnDropCodesAgainSpec : ChangeSpec := { name := "fnDropCodesAgain", fn := fun _ => fun
  | [d] => { results := [.lit (.bool true)], args := [d] }
  | _ => none }
def fnDropCodesAgainRow : OpenClaim := { program := "ytldooelffjcbmaagreat", sum := "44631ada316856658e8075d36929bc07f0cff66d77cb777cab55409d1bbfbea0", func := "loop.example/wholeway/laws.FnDropCodesAgain", spec := "fnDropCodesAgain", unfollowed := true, recurses := true, apart := false }
def FnDropCodesAgainSaid : Prop := fnDropCodesAgainRow.holds Tryz.pinned (OpenSpec.ofChange fnDropCodesAgainSpec)

/-- ITS FALSE NEIGHBOUR: 'it returns false'. Refute it at one input. -/
def fnDropCodesAgainWrong : ChangeSpec := { name := "fnDropCodesAgain", fn := fun _ => fun
  | [d] => { results := [.lit (.bool false)], args := [d] }
  | _ => none }
def FnDropCodesAgainWrongFalsely : Prop := fnDropCodesAgainRow.holds Tryz.pinned (OpenSpec.ofChange fnDropCodesAgainWrong)

/-- 'laws.FnDropIdleAgain': WHATEVER THE INPUT: true; the input reads as it did. -/
def fnDropIdleAgainSpec : ChangeSpec := { name := "fnDropIdleAgain", fn := fun _ => fun
  | [d] => { results := [.lit (.bool true)], args := [d] }
  | _ => none }
def fnDropIdleAgainRow : OpenClaim := { program := "ytldooelffjcbmaagreat", sum := "44631ada316856658e8075d36929bc07f0cff66d77cb777cab55409d1bbfbea0", func := "loop.example/wholeway/laws.FnDropIdleAgain", spec := "fnDropIdleAgain", unfollowed := true, recurses := true, apart := false }
def FnDropIdleAgainSaid : Prop := fnDropIdleAgainRow.holds Tryz.pinned (OpenSpec.ofChange fnDropIdleAgainSpec)

/-- ITS FALSE NEIGHBOUR: 'it returns false'. Refute it at one input. -/
def fnDropIdleAgainWrong : ChangeSpec := { name := "fnDropIdleAgain", fn := fun _ => fun
  | [d] => { results := [.lit (.bool false)], args := [d] }
  | _ => none }
def FnDropIdleAgainWrongFalsely : Prop := fnDropIdleAgainRow.holds Tryz.pinned (OpenSpec.ofChange fnDropIdleAgainWrong)

/-- 'laws.FnUnused': WHATEVER THE INPUT: true; the input reads as it did. -/
def fnUnusedSpec : ChangeSpec := { name := "fnUnused", fn := fun _ => fun
  | [d1, d2] => { results := [.lit (.bool true)], args := [d1, d2] }
  | _ => none }
def fnUnusedRow : OpenClaim := { program := "ytldooelffjcbmaagreat", sum := "44631ada316856658e8075d36929bc07f0cff66d77cb777cab55409d1bbfbea0", func := "loop.example/wholeway/laws.FnUnused", spec := "fnUnused", unfollowed := true, recurses := true, apart := false }
def FnUnusedSaid : Prop := fnUnusedRow.holds Tryz.pinned (OpenSpec.ofChange fnUnusedSpec)

/-- ITS FALSE NEIGHBOUR: 'it returns false'. Refute it at one input. -/
def fnUnusedWrong : ChangeSpec := { name := "fnUnused", fn := fun _ => fun
  | [d1, d2] => { results := [.lit (.bool false)], args := [d1, d2] }
  | _ => none }
def FnUnusedWrongFalsely : Prop := fnUnusedRow.holds Tryz.pinned (OpenSpec.ofChange fnUnusedWrong)

/-- 'laws.FnIsSingle': WHATEVER THE INPUT: true; the input reads as it did. -/
def fnIsSingleSpec : ChangeSpec := { name := "fnIsSingle", fn := fun _ => fun
  | [d] => { results := [.lit (.bool true)], args := [d] }
  | _ => none }
def fnIsSingleRow : OpenClaim := { program := "ytldooelffjcbmaagreat", sum := "44631ada316856658e8075d36929bc07f0cff66d77cb777cab55409d1bbfbea0", func := "loop.example/wholeway/laws.FnIsSingle", spec := "fnIsSingle", unfollowed := true, recurses := true, apart := false }
def FnIsSingleSaid : Prop := fnIsSingleRow.holds Tryz.pinned (OpenSpec.ofChange fnIsSingleSpec)

/-- ITS FALSE NEIGHBOUR: 'it returns false'. Refute it at one input. -/
def fnIsSingleWrong : ChangeSpec := { name := "fnIsSingle", fn := fun _ => fun
  | [d] => { results := [.lit (.bool false)], args := [d] }
  | _ => none }
def FnIsSingleWrongFalsely : Prop := fnIsSingleRow.holds Tryz.pinned (OpenSpec.ofChange fnIsSingleWrong)

/-- 'laws.FnSingleGiven': WHATEVER THE INPUT: true; the input reads as it did. -/
def fnSingleGivenSpec : ChangeSpec := { name := "fnSingleGiven", fn := fun _ => fun
  | [d] => { results := [.lit (.bool true)], args := [d] }
  | _ => none }
def fnSingleGivenRow : OpenClaim := { program := "ytldooelffjcbmaagreat", sum := "44631ada316856658e8075d36929bc07f0cff66d77cb777cab55409d1bbfbea0", func := "loop.example/wholeway/laws.FnSingleGiven", spec := "fnSingleGiven", unfollowed := true, recurses := true, apart := false }
def FnSingleGivenSaid : Prop := fnSingleGivenRow.holds Tryz.pinned (OpenSpec.ofChange fnSingleGivenSpec)

/-- ITS FALSE NEIGHBOUR: 'it returns false'. Refute it at one input. -/
def fnSingleGivenWrong : ChangeSpec := { name := "fnSingleGiven", fn := fun _ => fun
  | [d] => { results := [.lit (.bool false)], args := [d] }
  | _ => none }
def FnSingleGivenWrongFalsely : Prop := fnSingleGivenRow.holds Tryz.pinned (OpenSpec.ofChange fnSingleGivenWrong)

/-- 'laws.FnDropAgain': WHATEVER THE INPUT: true; the input reads as it did. -/
def fnDropAgainSpec : ChangeSpec := { name := "fnDropAgain", fn := fun _ => fun
  | [d] => { results := [.lit (.bool true)], args := [d] }
  | _ => none }
def fnDropAgainRow : OpenClaim := { program := "ytldooelffjcbmaagreat", sum := "44631ada316856658e8075d36929bc07f0cff66d77cb777cab55409d1bbfbea0", func := "loop.example/wholeway/laws.FnDropAgain", spec := "fnDropAgain", unfollowed := true, recurses := true, apart := false }
def FnDropAgainSaid : Prop := fnDropAgainRow.holds Tryz.pinned (OpenSpec.ofChange fnDropAgainSpec)

/-- ITS FALSE NEIGHBOUR: 'it returns false'. Refute it at one input. -/
def fnDropAgainWrong : ChangeSpec := { name := "fnDropAgain", fn := fun _ => fun
  | [d] => { results := [.lit (.bool false)], args := [d] }
  | _ => none }
def FnDropAgainWrongFalsely : Prop := fnDropAgainRow.holds Tryz.pinned (OpenSpec.ofChange fnDropAgainWrong)

/-- 'laws.FnOrderAgain': WHATEVER THE INPUT: true; the input reads as it did. -/
def fnOrderAgainSpec : ChangeSpec := { name := "fnOrderAgain", fn := fun _ => fun
  | [d] => { results := [.lit (.bool true)], args := [d] }
  | _ => none }
def fnOrderAgainRow : OpenClaim := { program := "ytldooelffjcbmaagreat", sum := "44631ada316856658e8075d36929bc07f0cff66d77cb777cab55409d1bbfbea0", func := "loop.example/wholeway/laws.FnOrderAgain", spec := "fnOrderAgain", unfollowed := true, recurses := true, apart := false }
def FnOrderAgainSaid : Prop := fnOrderAgainRow.holds Tryz.pinned (OpenSpec.ofChange fnOrderAgainSpec)

/-- ITS FALSE NEIGHBOUR: 'it returns false'. Refute it at one input. -/
def fnOrderAgainWrong : ChangeSpec := { name := "fnOrderAgain", fn := fun _ => fun
  | [d] => { results := [.lit (.bool false)], args := [d] }
  | _ => none }
def FnOrderAgainWrongFalsely : Prop := fnOrderAgainRow.holds Tryz.pinned (OpenSpec.ofChange fnOrderAgainWrong)

/-- 'laws.FnSplitAgain': WHATEVER THE INPUT: true; the input reads as it did. -/
def fnSplitAgainSpec : ChangeSpec := { name := "fnSplitAgain", fn := fun _ => fun
  | [d] => { results := [.lit (.bool true)], args := [d] }
  | _ => none }
def fnSplitAgainRow : OpenClaim := { program := "ytldooelffjcbmaagreat", sum := "44631ada316856658e8075d36929bc07f0cff66d77cb777cab55409d1bbfbea0", func := "loop.example/wholeway/laws.FnSplitAgain", spec := "fnSplitAgain", unfollowed := true, recurses := true, apart := false }
def FnSplitAgainSaid : Prop := fnSplitAgainRow.holds Tryz.pinned (OpenSpec.ofChange fnSplitAgainSpec)

/-- ITS FALSE NEIGHBOUR: 'it returns false'. Refute it at one input. -/
def fnSplitAgainWrong : ChangeSpec := { name := "fnSplitAgain", fn := fun _ => fun
  | [d] => { results := [.lit (.bool false)], args := [d] }
  | _ => none }
def FnSplitAgainWrongFalsely : Prop := fnSplitAgainRow.holds Tryz.pinned (OpenSpec.ofChange fnSplitAgainWrong)

/-- 'laws.FnDomSplit': WHATEVER THE INPUT: true; the input reads as it did. -/
def fnDomSplitSpec : ChangeSpec := { name := "fnDomSplit", fn := fun _ => fun
  | [d] => { results := [.lit (.bool true)], args := [d] }
  | _ => none }
def fnDomSplitRow : OpenClaim := { program := "ytldooelffjcbmaagreat", sum := "44631ada316856658e8075d36929bc07f0cff66d77cb777cab55409d1bbfbea0", func := "loop.example/wholeway/laws.FnDomSplit", spec := "fnDomSplit", unfollowed := true, recurses := true, apart := false }
def FnDomSplitSaid : Prop := fnDomSplitRow.holds Tryz.pinned (OpenSpec.ofChange fnDomSplitSpec)

/-- ITS FALSE NEIGHBOUR: 'it returns false'. Refute it at one input. -/
def fnDomSplitWrong : ChangeSpec := { name := "fnDomSplit", fn := fun _ => fun
  | [d] => { results := [.lit (.bool false)], args := [d] }
  | _ => none }
def FnDomSplitWrongFalsely : Prop := fnDomSplitRow.holds Tryz.pinned (OpenSpec.ofChange fnDomSplitWrong)

/-- 'laws.FnJoinedNone': WHATEVER THE INPUT: true; the input reads as it did. -/
def fnJoinedNoneSpec : ChangeSpec := { name := "fnJoinedNone", fn := fun _ => fun
  | [d] => { results := [.lit (.bool true)], args := [d] }
  | _ => none }
def fnJoinedNoneRow : OpenClaim := { program := "ytldooelffjcbmaagreat", sum := "44631ada316856658e8075d36929bc07f0cff66d77cb777cab55409d1bbfbea0", func := "loop.example/wholeway/laws.FnJoinedNone", spec := "fnJoinedNone", unfollowed := true, recurses := true, apart := false }
def FnJoinedNoneSaid : Prop := fnJoinedNoneRow.holds Tryz.pinned (OpenSpec.ofChange fnJoinedNoneSpec)

/-- ITS FALSE NEIGHBOUR: 'it returns false'. Refute it at one input. -/
def fnJoinedNoneWrong : ChangeSpec := { name := "fnJoinedNone", fn := fun _ => fun
  | [d] => { results := [.lit (.bool false)], args := [d] }
  | _ => none }
def FnJoinedNoneWrongFalsely : Prop := fnJoinedNoneRow.holds Tryz.pinned (OpenSpec.ofChange fnJoinedNoneWrong)

/- THE SECOND FORM. 'bulk': how many values and letters a reading holds, each counted each time it is reached (what is shared counts as often as it is met; a slice's spare places count too). A statement '..UptoSaid' is the law's where the arguments, and the package variables that the reading takes, are together of bulk at most 1048576: NARROWER than '..Said'. Prove '..Said' where nothing that the law and all that it calls make is longer than what came in: it says more and counts as full. Else prove '..UptoSaid'. A law counts once. -/
mutual
def uptoBulk {H : Type} : DataW H → Nat
  | .lit (.string bytes) => bytes.length + 1
  | .lit _ => 1
  | .nil => 1
  | .ptr d => uptoBulk d + 1
  | .slice elems spare => uptoBulkAll elems + uptoBulkAll spare + 1
  | .agg parts => uptoBulkAll parts + 1
  | .iface _ d => uptoBulk d + 1
  | .map entries => uptoBulkEntries entries + 1
  | .held _ => 1
def uptoBulkAll {H : Type} : List (DataW H) → Nat
  | [] => 0
  | d :: r => uptoBulk d + uptoBulkAll r
def uptoBulkEntries {H : Type} : List (Lit × DataW H) → Nat
  | [] => 0
  | x :: r => uptoBulkEntry x + uptoBulkEntries r
def uptoBulkEntry {H : Type} : Lit × DataW H → Nat
  | (.string bytes, d) => bytes.length + uptoBulk d + 1
  | (_, d) => uptoBulk d + 1
 end
def uptoSmall : (H : Type) → List (DataW H) → Bool := fun _ ds => decide (uptoBulkAll ds ≤ 1048576)
def OpenSpec.upto (s : _root_.Go.ChangeSpec) : _root_.Go.OpenSpec := { _root_.Go.OpenSpec.ofChange s with cond := some uptoSmall }

/-- 'laws.FnCodesNeeded', WHERE WHAT IT READS IS OF BULK AT MOST 1048576: true; the input reads as it did. -/
def fnCodesNeededUptoRow : OpenClaim := { program := "ytldooelffjcbmaagreat", sum := "44631ada316856658e8075d36929bc07f0cff66d77cb777cab55409d1bbfbea0", func := "loop.example/wholeway/laws.FnCodesNeeded", spec := "fnCodesNeeded", unfollowed := true, recurses := true, apart := false, narrowed := true }
def FnCodesNeededUptoSaid : Prop := fnCodesNeededUptoRow.holds Tryz.pinned (OpenSpec.upto fnCodesNeededSpec)

/-- 'laws.FnDropCodesAgain', WHERE WHAT IT READS IS OF BULK AT MOST 1048576: true; the input reads as it did. -/
def fnDropCodesAgainUptoRow : OpenClaim := { program := "ytldooelffjcbmaagreat", sum := "44631ada316856658e8075d36929bc07f0cff66d77cb777cab55409d1bbfbea0", func := "loop.example/wholeway/laws.FnDropCodesAgain", spec := "fnDropCodesAgain", unfollowed := true, recurses := true, apart := false, narrowed := true }
def FnDropCodesAgainUptoSaid : Prop := fnDropCodesAgainUptoRow.holds Tryz.pinned (OpenSpec.upto fnDropCodesAgainSpec)

/-- 'laws.FnDropIdleAgain', WHERE WHAT IT READS IS OF BULK AT MOST 1048576: true; the input reads as it did. -/
def fnDropIdleAgainUptoRow : OpenClaim := { program := "ytldooelffjcbmaagreat", sum := "44631ada316856658e8075d36929bc07f0cff66d77cb777cab55409d1bbfbea0", func := "loop.example/wholeway/laws.FnDropIdleAgain", spec := "fnDropIdleAgain", unfollowed := true, recurses := true, apart := false, narrowed := true }
def FnDropIdleAgainUptoSaid : Prop := fnDropIdleAgainUptoRow.holds Tryz.pinned (OpenSpec.upto fnDropIdleAgainSpec)

/-- 'laws.FnUnused', WHERE WHAT IT READS IS OF BULK AT MOST 1048576: true; the input reads as it did. -/
def fnUnusedUptoRow : OpenClaim := { program := "ytldooelffjcbmaagreat", sum := "44631ada316856658e8075d36929bc07f0cff66d77cb777cab55409d1bbfbea0", func := "loop.example/wholeway/laws.FnUnused", spec := "fnUnused", unfollowed := true, recurses := true, apart := false, narrowed := true }
def FnUnusedUptoSaid : Prop := fnUnusedUptoRow.holds Tryz.pinned (OpenSpec.upto fnUnusedSpec)

/-- 'laws.FnIsSingle', WHERE WHAT IT READS IS OF BULK AT MOST 1048576: true; the input reads as it did. -/
def fnIsSingleUptoRow : OpenClaim := { program := "ytldooelffjcbmaagreat", sum := "44631ada316856658e8075d36929bc07f0cff66d77cb777cab55409d1bbfbea0", func := "loop.example/wholeway/laws.FnIsSingle", spec := "fnIsSingle", unfollowed := true, recurses := true, apart := false, narrowed := true }
def FnIsSingleUptoSaid : Prop := fnIsSingleUptoRow.holds Tryz.pinned (OpenSpec.upto fnIsSingleSpec)

/-- 'laws.FnSingleGiven', WHERE WHAT IT READS IS OF BULK AT MOST 1048576: true; the input reads as it did. -/
def fnSingleGivenUptoRow : OpenClaim := { program := "ytldooelffjcbmaagreat", sum := "44631ada316856658e8075d36929bc07f0cff66d77cb777cab55409d1bbfbea0", func := "loop.example/wholeway/laws.FnSingleGiven", spec := "fnSingleGiven", unfollowed := true, recurses := true, apart := false, narrowed := true }
def FnSingleGivenUptoSaid : Prop := fnSingleGivenUptoRow.holds Tryz.pinned (OpenSpec.upto fnSingleGivenSpec)

/-- 'laws.FnDropAgain', WHERE WHAT IT READS IS OF BULK AT MOST 1048576: true; the input reads as it did. -/
def fnDropAgainUptoRow : OpenClaim := { program := "ytldooelffjcbmaagreat", sum := "44631ada316856658e8075d36929bc07f0cff66d77cb777cab55409d1bbfbea0", func := "loop.example/wholeway/laws.FnDropAgain", spec := "fnDropAgain", unfollowed := true, recurses := true, apart := false, narrowed := true }
def FnDropAgainUptoSaid : Prop := fnDropAgainUptoRow.holds Tryz.pinned (OpenSpec.upto fnDropAgainSpec)

/-- 'laws.FnOrderAgain', WHERE WHAT IT READS IS OF BULK AT MOST 1048576: true; the input reads as it did. -/
def fnOrderAgainUptoRow : OpenClaim := { program := "ytldooelffjcbmaagreat", sum := "44631ada316856658e8075d36929bc07f0cff66d77cb777cab55409d1bbfbea0", func := "loop.example/wholeway/laws.FnOrderAgain", spec := "fnOrderAgain", unfollowed := true, recurses := true, apart := false, narrowed := true }
def FnOrderAgainUptoSaid : Prop := fnOrderAgainUptoRow.holds Tryz.pinned (OpenSpec.upto fnOrderAgainSpec)

/-- 'laws.FnSplitAgain', WHERE WHAT IT READS IS OF BULK AT MOST 1048576: true; the input reads as it did. -/
def fnSplitAgainUptoRow : OpenClaim := { program := "ytldooelffjcbmaagreat", sum := "44631ada316856658e8075d36929bc07f0cff66d77cb777cab55409d1bbfbea0", func := "loop.example/wholeway/laws.FnSplitAgain", spec := "fnSplitAgain", unfollowed := true, recurses := true, apart := false, narrowed := true }
def FnSplitAgainUptoSaid : Prop := fnSplitAgainUptoRow.holds Tryz.pinned (OpenSpec.upto fnSplitAgainSpec)

/-- 'laws.FnDomSplit', WHERE WHAT IT READS IS OF BULK AT MOST 1048576: true; the input reads as it did. -/
def fnDomSplitUptoRow : OpenClaim := { program := "ytldooelffjcbmaagreat", sum := "44631ada316856658e8075d36929bc07f0cff66d77cb777cab55409d1bbfbea0", func := "loop.example/wholeway/laws.FnDomSplit", spec := "fnDomSplit", unfollowed := true, recurses := true, apart := false, narrowed := true }
def FnDomSplitUptoSaid : Prop := fnDomSplitUptoRow.holds Tryz.pinned (OpenSpec.upto fnDomSplitSpec)

/-- 'laws.FnJoinedNone', WHERE WHAT IT READS IS OF BULK AT MOST 1048576: true; the input reads as it did. -/
def fnJoinedNoneUptoRow : OpenClaim := { program := "ytldooelffjcbmaagreat", sum := "44631ada316856658e8075d36929bc07f0cff66d77cb777cab55409d1bbfbea0", func := "loop.example/wholeway/laws.FnJoinedNone", spec := "fnJoinedNone", unfollowed := true, recurses := true, apart := false, narrowed := true }
def FnJoinedNoneUptoSaid : Prop := fnJoinedNoneUptoRow.holds Tryz.pinned (OpenSpec.upto fnJoinedNoneSpec)

end Rows
end Go.Proofs.YtldooelffjcbmaaGreat
