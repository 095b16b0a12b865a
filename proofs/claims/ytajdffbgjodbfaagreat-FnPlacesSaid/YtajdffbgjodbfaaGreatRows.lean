/-
  No cell of these rows narrows 'for every input' (looked for: loops, veiled, ifaces, maps, wideKeys, modest, calm, conditions, laid).
  DERIVED. THE GIVEN ROWS OF THIS SEAT. 11 by the template 'for every input the law returns true; each argument reads behind the call as it read before'; 0 by the template 'total and deterministic' (their statements: YtajdffbgjodbfaaGreatTotals.lean).
  GIVEN WITH THE SEED: the statements are not yours to turn. If you find one false, say at which input.
  Laid BY PROGRAM, IN A SANDBOX (cutbox-rows.mjs): the forced cells as the released guide's own fill.sh prints them over the translation ae922c7b22c112b7… (all of the seat's roots in one cut). By AI agents, Wed Nov 11 2026. No macro, syntax, notation, axiom, sorry.
-/
import Derived.Test.YtajdffbgjodbfaaGreatChecked
import GoSem.Claim
import GoSem.ClaimJoined
import GoSem.ClaimMapViews
import Derived.JoinedTies
import Derived.KernelRfl
namespace Go.Proofs.YtajdffbgjodbfaaGreat
/- THE CELL 'sum', in the pinned program and in every row, IS THE sha256 OF THE DUMP (.gsa) THAT YtajdffbgjodbfaaGreatProg.lean LOADS. Nothing in Lean hashes anything: it is a label: what it is worth is what the hold of that sum in a sandbox is worth. -/
noncomputable def Tryz.pinned : Pinned := { name := "ytajdffbgjodbfaagreat", sum := "ae922c7b22c112b74d32aab2ef5e6a94ae0a75499d15373b17124d3f0eb3e9db", checked := Tryz.checked }
namespace Rows
def none {H : Type} : Left H := { results := [], args := [] }

/-- 'laws.FnLoopBody': WHATEVER THE INPUT: true; the input reads as it did. -/
def fnLoopBodySpec : ChangeSpec := { name := "fnLoopBody", fn := fun _ => fun
  | [d] => { results := [.lit (.bool true)], args := [d] }
  | _ => none }
def fnLoopBodyRow : OpenClaim := { program := "ytajdffbgjodbfaagreat", sum := "ae922c7b22c112b74d32aab2ef5e6a94ae0a75499d15373b17124d3f0eb3e9db", func := "loop.example/wholeway/laws.FnLoopBody", spec := "fnLoopBody", unfollowed := true, recurses := true, apart := false }
def FnLoopBodySaid : Prop := fnLoopBodyRow.holds Tryz.pinned (OpenSpec.ofChange fnLoopBodySpec)

/-- ITS FALSE NEIGHBOUR: 'it returns false'. Refute it at one input. -/
def fnLoopBodyWrong : ChangeSpec := { name := "fnLoopBody", fn := fun _ => fun
  | [d] => { results := [.lit (.bool false)], args := [d] }
  | _ => none }
def FnLoopBodyWrongFalsely : Prop := fnLoopBodyRow.holds Tryz.pinned (OpenSpec.ofChange fnLoopBodyWrong)

/-- 'laws.FnMostLive': WHATEVER THE INPUT: true; the input reads as it did. -/
def fnMostLiveSpec : ChangeSpec := { name := "fnMostLive", fn := fun _ => fun
  | [d] => { results := [.lit (.bool true)], args := [d] }
  | _ => none }
def fnMostLiveRow : OpenClaim := { program := "ytajdffbgjodbfaagreat", sum := "ae922c7b22c112b74d32aab2ef5e6a94ae0a75499d15373b17124d3f0eb3e9db", func := "loop.example/wholeway/laws.FnMostLive", spec := "fnMostLive", unfollowed := true, recurses := true, apart := false }
def FnMostLiveSaid : Prop := fnMostLiveRow.holds Tryz.pinned (OpenSpec.ofChange fnMostLiveSpec)

/-- ITS FALSE NEIGHBOUR: 'it returns false'. Refute it at one input. -/
def fnMostLiveWrong : ChangeSpec := { name := "fnMostLive", fn := fun _ => fun
  | [d] => { results := [.lit (.bool false)], args := [d] }
  | _ => none }
def FnMostLiveWrongFalsely : Prop := fnMostLiveRow.holds Tryz.pinned (OpenSpec.ofChange fnMostLiveWrong)

/-- 'laws.FnLiveOuts': WHATEVER THE INPUT: true; the input reads as it did. -/
def fnLiveOutsSpec : ChangeSpec := { name := "fnLiveOuts", fn := fun _ => fun
  | [d] => { results := [.lit (.bool true)], args := [d] }
  | _ => none }
def fnLiveOutsRow : OpenClaim := { program := "ytajdffbgjodbfaagreat", sum := "ae922c7b22c112b74d32aab2ef5e6a94ae0a75499d15373b17124d3f0eb3e9db", func := "loop.example/wholeway/laws.FnLiveOuts", spec := "fnLiveOuts", unfollowed := true, recurses := true, apart := false }
def FnLiveOutsSaid : Prop := fnLiveOutsRow.holds Tryz.pinned (OpenSpec.ofChange fnLiveOutsSpec)

/-- ITS FALSE NEIGHBOUR: 'it returns false'. Refute it at one input. -/
def fnLiveOutsWrong : ChangeSpec := { name := "fnLiveOuts", fn := fun _ => fun
  | [d] => { results := [.lit (.bool false)], args := [d] }
  | _ => none }
def FnLiveOutsWrongFalsely : Prop := fnLiveOutsRow.holds Tryz.pinned (OpenSpec.ofChange fnLiveOutsWrong)

/-- 'laws.FnLiveIns': WHATEVER THE INPUT: true; the input reads as it did. -/
def fnLiveInsSpec : ChangeSpec := { name := "fnLiveIns", fn := fun _ => fun
  | [d] => { results := [.lit (.bool true)], args := [d] }
  | _ => none }
def fnLiveInsRow : OpenClaim := { program := "ytajdffbgjodbfaagreat", sum := "ae922c7b22c112b74d32aab2ef5e6a94ae0a75499d15373b17124d3f0eb3e9db", func := "loop.example/wholeway/laws.FnLiveIns", spec := "fnLiveIns", unfollowed := true, recurses := true, apart := false }
def FnLiveInsSaid : Prop := fnLiveInsRow.holds Tryz.pinned (OpenSpec.ofChange fnLiveInsSpec)

/-- ITS FALSE NEIGHBOUR: 'it returns false'. Refute it at one input. -/
def fnLiveInsWrong : ChangeSpec := { name := "fnLiveIns", fn := fun _ => fun
  | [d] => { results := [.lit (.bool false)], args := [d] }
  | _ => none }
def FnLiveInsWrongFalsely : Prop := fnLiveInsRow.holds Tryz.pinned (OpenSpec.ofChange fnLiveInsWrong)

/-- 'laws.FnLoopOuter': WHATEVER THE INPUT: true; the input reads as it did. -/
def fnLoopOuterSpec : ChangeSpec := { name := "fnLoopOuter", fn := fun _ => fun
  | [d] => { results := [.lit (.bool true)], args := [d] }
  | _ => none }
def fnLoopOuterRow : OpenClaim := { program := "ytajdffbgjodbfaagreat", sum := "ae922c7b22c112b74d32aab2ef5e6a94ae0a75499d15373b17124d3f0eb3e9db", func := "loop.example/wholeway/laws.FnLoopOuter", spec := "fnLoopOuter", unfollowed := true, recurses := true, apart := false }
def FnLoopOuterSaid : Prop := fnLoopOuterRow.holds Tryz.pinned (OpenSpec.ofChange fnLoopOuterSpec)

/-- ITS FALSE NEIGHBOUR: 'it returns false'. Refute it at one input. -/
def fnLoopOuterWrong : ChangeSpec := { name := "fnLoopOuter", fn := fun _ => fun
  | [d] => { results := [.lit (.bool false)], args := [d] }
  | _ => none }
def FnLoopOuterWrongFalsely : Prop := fnLoopOuterRow.holds Tryz.pinned (OpenSpec.ofChange fnLoopOuterWrong)

/-- 'laws.FnIdle': WHATEVER THE INPUT: true; the input reads as it did. -/
def fnIdleSpec : ChangeSpec := { name := "fnIdle", fn := fun _ => fun
  | [d] => { results := [.lit (.bool true)], args := [d] }
  | _ => none }
def fnIdleRow : OpenClaim := { program := "ytajdffbgjodbfaagreat", sum := "ae922c7b22c112b74d32aab2ef5e6a94ae0a75499d15373b17124d3f0eb3e9db", func := "loop.example/wholeway/laws.FnIdle", spec := "fnIdle", unfollowed := true, recurses := true, apart := false }
def FnIdleSaid : Prop := fnIdleRow.holds Tryz.pinned (OpenSpec.ofChange fnIdleSpec)

/-- ITS FALSE NEIGHBOUR: 'it returns false'. Refute it at one input. -/
def fnIdleWrong : ChangeSpec := { name := "fnIdle", fn := fun _ => fun
  | [d] => { results := [.lit (.bool false)], args := [d] }
  | _ => none }
def FnIdleWrongFalsely : Prop := fnIdleRow.holds Tryz.pinned (OpenSpec.ofChange fnIdleWrong)

/-- 'laws.FnBlockCount': WHATEVER THE INPUT: true; the input reads as it did. -/
def fnBlockCountSpec : ChangeSpec := { name := "fnBlockCount", fn := fun _ => fun
  | [d] => { results := [.lit (.bool true)], args := [d] }
  | _ => none }
def fnBlockCountRow : OpenClaim := { program := "ytajdffbgjodbfaagreat", sum := "ae922c7b22c112b74d32aab2ef5e6a94ae0a75499d15373b17124d3f0eb3e9db", func := "loop.example/wholeway/laws.FnBlockCount", spec := "fnBlockCount", unfollowed := true, recurses := true, apart := false }
def FnBlockCountSaid : Prop := fnBlockCountRow.holds Tryz.pinned (OpenSpec.ofChange fnBlockCountSpec)

/-- ITS FALSE NEIGHBOUR: 'it returns false'. Refute it at one input. -/
def fnBlockCountWrong : ChangeSpec := { name := "fnBlockCount", fn := fun _ => fun
  | [d] => { results := [.lit (.bool false)], args := [d] }
  | _ => none }
def FnBlockCountWrongFalsely : Prop := fnBlockCountRow.holds Tryz.pinned (OpenSpec.ofChange fnBlockCountWrong)

/-- 'laws.FnPlaces': WHATEVER THE INPUT: true; the input reads as it did. -/
def fnPlacesSpec : ChangeSpec := { name := "fnPlaces", fn := fun _ => fun
  | [d] => { results := [.lit (.bool true)], args := [d] }
  | _ => none }
def fnPlacesRow : OpenClaim := { program := "ytajdffbgjodbfaagreat", sum := "ae922c7b22c112b74d32aab2ef5e6a94ae0a75499d15373b17124d3f0eb3e9db", func := "loop.example/wholeway/laws.FnPlaces", spec := "fnPlaces", unfollowed := true, recurses := true, apart := false }
def FnPlacesSaid : Prop := fnPlacesRow.holds Tryz.pinned (OpenSpec.ofChange fnPlacesSpec)

/-- ITS FALSE NEIGHBOUR: 'it returns false'. Refute it at one input. -/
def fnPlacesWrong : ChangeSpec := { name := "fnPlaces", fn := fun _ => fun
  | [d] => { results := [.lit (.bool false)], args := [d] }
  | _ => none }
def FnPlacesWrongFalsely : Prop := fnPlacesRow.holds Tryz.pinned (OpenSpec.ofChange fnPlacesWrong)

/-- 'laws.FnUsesIn': WHATEVER THE INPUT: true; the input reads as it did. -/
def fnUsesInSpec : ChangeSpec := { name := "fnUsesIn", fn := fun _ => fun
  | [d] => { results := [.lit (.bool true)], args := [d] }
  | _ => none }
def fnUsesInRow : OpenClaim := { program := "ytajdffbgjodbfaagreat", sum := "ae922c7b22c112b74d32aab2ef5e6a94ae0a75499d15373b17124d3f0eb3e9db", func := "loop.example/wholeway/laws.FnUsesIn", spec := "fnUsesIn", unfollowed := true, recurses := true, apart := false }
def FnUsesInSaid : Prop := fnUsesInRow.holds Tryz.pinned (OpenSpec.ofChange fnUsesInSpec)

/-- ITS FALSE NEIGHBOUR: 'it returns false'. Refute it at one input. -/
def fnUsesInWrong : ChangeSpec := { name := "fnUsesIn", fn := fun _ => fun
  | [d] => { results := [.lit (.bool false)], args := [d] }
  | _ => none }
def FnUsesInWrongFalsely : Prop := fnUsesInRow.holds Tryz.pinned (OpenSpec.ofChange fnUsesInWrong)

/-- 'laws.FnCodeSize': WHATEVER THE INPUT: true; the input reads as it did. -/
def fnCodeSizeSpec : ChangeSpec := { name := "fnCodeSize", fn := fun _ => fun
  | [d] => { results := [.lit (.bool true)], args := [d] }
  | _ => none }
def fnCodeSizeRow : OpenClaim := { program := "ytajdffbgjodbfaagreat", sum := "ae922c7b22c112b74d32aab2ef5e6a94ae0a75499d15373b17124d3f0eb3e9db", func := "loop.example/wholeway/laws.FnCodeSize", spec := "fnCodeSize", unfollowed := true, recurses := true, apart := false }
def FnCodeSizeSaid : Prop := fnCodeSizeRow.holds Tryz.pinned (OpenSpec.ofChange fnCodeSizeSpec)

/-- ITS FALSE NEIGHBOUR: 'it returns false'. Refute it at one input. -/
def fnCodeSizeWrong : ChangeSpec := { name := "fnCodeSize", fn := fun _ => fun
  | [d] => { results := [.lit (.bool false)], args := [d] }
  | _ => none }
def FnCodeSizeWrongFalsely : Prop := fnCodeSizeRow.holds Tryz.pinned (OpenSpec.ofChange fnCodeSizeWrong)

/-- 'laws.FnCallsIn': WHATEVER THE INPUT: true; the input reads as it did. -/
def fnCallsInSpec : ChangeSpec := { name := "fnCallsIn", fn := fun _ => fun
  | [d] => { results := [.lit (.bool true)], args := [d] }
  | _ => none }
def fnCallsInRow : OpenClaim := { program := "ytajdffbgjodbfaagreat", sum := "ae922c7b22c112b74d32aab2ef5e6a94ae0a75499d15373b17124d3f0eb3e9db", func := "loop.example/wholeway/laws.FnCallsIn", spec := "fnCallsIn", unfollowed := true, recurses := true, apart := false }
def FnCallsInSaid : Prop := fnCallsInRow.holds Tryz.pinned (OpenSpec.ofChange fnCallsInSpec)

/-- ITS FALSE NEIGHBOUR: 'it returns false'. Refute it at one input. -/
def fnCallsInWrong : ChangeSpec := { name := "fnCallsIn", fn := fun _ => fun
  | [d] => { results := [.lit (.bool false)], args := [d] }
  | _ => none }
def FnCallsInWrongFalsely : Prop := fnCallsInRow.holds Tryz.pinned (OpenSpec.ofChange fnCallsInWrong)

/- THE SECOND FORM. 'bulk': how many values and letters a reading holds, each counted each time it is reached (what is shared counts as often as it is met; a slice's spare places count too). A statement '..UptoSaid' is the law's where the arguments, and the package variables that the reading takes, are together of bulk at most 1048576: NARROWER than '..Said'. Prove '..Said' where nothing that the law and all that it calls make is longer than what came in: it says more and counts as full. Else prove '..UptoSaid'. A law counts once. -/
mutual
def uptoBulk {H : Type} : DataW H → Nat
  | .lit (.string bytes) => bytes.length + 1
  | .lit _ => 1
  | .nil => 1
  | .ptr d => uptoBulk d + 1
  | .slice elems spare => uptoBulkAll elems + uptoBulkAll spare + 1
  | .agg parts => uptoBulkAll parts + 1
  | .iface _ d => uptoBulk d + 1
  | .map entries => uptoBulkEntries entries + 1
  | .held _ => 1
def uptoBulkAll {H : Type} : List (DataW H) → Nat
  | [] => 0
  | d :: r => uptoBulk d + uptoBulkAll r
def uptoBulkEntries {H : Type} : List (Lit × DataW H) → Nat
  | [] => 0
  | x :: r => uptoBulkEntry x + uptoBulkEntries r
def uptoBulkEntry {H : Type} : Lit × DataW H → Nat
  | (.string bytes, d) => bytes.length + uptoBulk d + 1
  | (_, d) => uptoBulk d + 1
 end
def uptoSmall : (H : Type) → List (DataW H) → Bool := fun _ ds => decide (uptoBulkAll ds ≤ 1048576)
def OpenSpec.upto (s : _root_.Go.ChangeSpec) : _root_.Go.OpenSpec := { _root_.Go.OpenSpec.ofChange s with cond := some uptoSmall }

/-- 'laws.FnLoopBody', WHERE WHAT IT READS IS OF BULK AT MOST 1048576: true; the input reads as it did. -/
def fnLoopBodyUptoRow : OpenClaim := { program := "ytajdffbgjodbfaagreat", sum := "ae922c7b22c112b74d32aab2ef5e6a94ae0a75499d15373b17124d3f0eb3e9db", func := "loop.example/wholeway/laws.FnLoopBody", spec := "fnLoopBody", unfollowed := true, recurses := true, apart := false, narrowed := true }
def FnLoopBodyUptoSaid : Prop := fnLoopBodyUptoRow.holds Tryz.pinned (OpenSpec.upto fnLoopBodySpec)

/-- 'laws.FnMostLive', WHERE WHAT IT READS IS OF BULK AT MOST 1048576: true; the input reads as it did. -/
def fnMostLiveUptoRow : OpenClaim := { program := "ytajdffbgjodbfaagreat", sum := "ae922c7b22c112b74d32aab2ef5e6a94ae0a75499d15373b17124d3f0eb3e9db", func := "loop.example/wholeway/laws.FnMostLive", spec := "fnMostLive", unfollowed := true, recurses := true, apart := false, narrowed := true }
def FnMostLiveUptoSaid : Prop := fnMostLiveUptoRow.holds Tryz.pinned (OpenSpec.upto fnMostLiveSpec)

/-- 'laws.FnLiveOuts', WHERE WHAT IT READS IS OF BULK AT MOST 1048576: true; the input reads as it did. -/
def fnLiveOutsUptoRow : OpenClaim := { program := "ytajdffbgjodbfaagreat", sum := "ae922c7b22c112b74d32aab2ef5e6a94ae0a75499d15373b17124d3f0eb3e9db", func := "loop.example/wholeway/laws.FnLiveOuts", spec := "fnLiveOuts", unfollowed := true, recurses := true, apart := false, narrowed := true }
def FnLiveOutsUptoSaid : Prop := fnLiveOutsUptoRow.holds Tryz.pinned (OpenSpec.upto fnLiveOutsSpec)

/-- 'laws.FnLiveIns', WHERE WHAT IT READS IS OF BULK AT MOST 1048576: true; the input reads as it did. -/
def fnLiveInsUptoRow : OpenClaim := { program := "ytajdffbgjodbfaagreat", sum := "ae922c7b22c112b74d32aab2ef5e6a94ae0a75499d15373b17124d3f0eb3e9db", func := "loop.example/wholeway/laws.FnLiveIns", spec := "fnLiveIns", unfollowed := true, recurses := true, apart := false, narrowed := true }
def FnLiveInsUptoSaid : Prop := fnLiveInsUptoRow.holds Tryz.pinned (OpenSpec.upto fnLiveInsSpec)

/-- 'laws.FnLoopOuter', WHERE WHAT IT READS IS OF BULK AT MOST 1048576: true; the input reads as it did. -/
def fnLoopOuterUptoRow : OpenClaim := { program := "ytajdffbgjodbfaagreat", sum := "ae922c7b22c112b74d32aab2ef5e6a94ae0a75499d15373b17124d3f0eb3e9db", func := "loop.example/wholeway/laws.FnLoopOuter", spec := "fnLoopOuter", unfollowed := true, recurses := true, apart := false, narrowed := true }
def FnLoopOuterUptoSaid : Prop := fnLoopOuterUptoRow.holds Tryz.pinned (OpenSpec.upto fnLoopOuterSpec)

/-- 'laws.FnIdle', WHERE WHAT IT READS IS OF BULK AT MOST 1048576: true; the input reads as it did. -/
def fnIdleUptoRow : OpenClaim := { program := "ytajdffbgjodbfaagreat", sum := "ae922c7b22c112b74d32aab2ef5e6a94ae0a75499d15373b17124d3f0eb3e9db", func := "loop.example/wholeway/laws.FnIdle", spec := "fnIdle", unfollowed := true, recurses := true, apart := false, narrowed := true }
def FnIdleUptoSaid : Prop := fnIdleUptoRow.holds Tryz.pinned (OpenSpec.upto fnIdleSpec)

/-- 'laws.FnBlockCount', WHERE WHAT IT READS IS OF BULK AT MOST 1048576: true; the input reads as it did. -/
def fnBlockCountUptoRow : OpenClaim := { program := "ytajdffbgjodbfaagreat", sum := "ae922c7b22c112b74d32aab2ef5e6a94ae0a75499d15373b17124d3f0eb3e9db", func := "loop.example/wholeway/laws.FnBlockCount", spec := "fnBlockCount", unfollowed := true, recurses := true, apart := false, narrowed := true }
def FnBlockCountUptoSaid : Prop := fnBlockCountUptoRow.holds Tryz.pinned (OpenSpec.upto fnBlockCountSpec)

/-- 'laws.FnPlaces', WHERE WHAT IT READS IS OF BULK AT MOST 1048576: true; the input reads as it did. -/
def fnPlacesUptoRow : OpenClaim := { program := "ytajdffbgjodbfaagreat", sum := "ae922c7b22c112b74d32aab2ef5e6a94ae0a75499d15373b17124d3f0eb3e9db", func := "loop.example/wholeway/laws.FnPlaces", spec := "fnPlaces", unfollowed := true, recurses := true, apart := false, narrowed := true }
def FnPlacesUptoSaid : Prop := fnPlacesUptoRow.holds Tryz.pinned (OpenSpec.upto fnPlacesSpec)

/-- 'laws.FnUsesIn', WHERE WHAT IT READS IS OF BULK AT MOST 1048576: true; the input reads as it did. -/
def fnUsesInUptoRow : OpenClaim := { program := "ytajdffbgjodbfaagreat", sum := "ae922c7b22c112b74d32aab2ef5e6a94ae0a75499d15373b17124d3f0eb3e9db", func := "loop.example/wholeway/laws.FnUsesIn", spec := "fnUsesIn", unfollowed := true, recurses := true, apart := false, narrowed := true }
def FnUsesInUptoSaid : Prop := fnUsesInUptoRow.holds Tryz.pinned (OpenSpec.upto fnUsesInSpec)

/-- 'laws.FnCodeSize', WHERE WHAT IT READS IS OF BULK AT MOST 1048576: true; the input reads as it did. -/
def fnCodeSizeUptoRow : OpenClaim := { program := "ytajdffbgjodbfaagreat", sum := "ae922c7b22c112b74d32aab2ef5e6a94ae0a75499d15373b17124d3f0eb3e9db", func := "loop.example/wholeway/laws.FnCodeSize", spec := "fnCodeSize", unfollowed := true, recurses := true, apart := false, narrowed := true }
def FnCodeSizeUptoSaid : Prop := fnCodeSizeUptoRow.holds Tryz.pinned (OpenSpec.upto fnCodeSizeSpec)

/-- 'laws.FnCallsIn', WHERE WHAT IT READS IS OF BULK AT MOST 1048576: true; the input reads as it did. -/
def fnCallsInUptoRow : OpenClaim := { program := "ytajdffbgjodbfaagreat", sum := "ae922c7b22c112b74d32aab2ef5e6a94ae0a75499d15373b17124d3f0eb3e9db", func := "loop.example/wholeway/laws.FnCallsIn", spec := "fnCallsIn", unfollowed := true, recurses := true, apart := false, narrowed := true }
def FnCallsInUptoSaid : Prop := fnCallsInUptoRow.holds Tryz.pinned (OpenSpec.upto fnCallsInSpec)

end Rows
end Go.Proofs.YtajdffbgjodbfaaGreat
