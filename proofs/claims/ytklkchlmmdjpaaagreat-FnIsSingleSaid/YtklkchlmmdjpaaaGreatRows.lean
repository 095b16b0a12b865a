/-
  No cell of these rows narrows 'for every input' (looked for: loops, veiled, ifaces, maps, wideKeys, modest, calm, conditions, laid).
  DERIVED. THE GIVEN ROWS OF THIS SEAT. 2 by the template 'for every input the law returns true; each argument reads behind the call as it read before'; 0 by the template 'total and deterministic' (their statements: YtklkchlmmdjpaaaGreatTotals.lean).
  GIVEN WITH THE SEED: the statements are not yours to turn. If you find one false, say at which input.
  Laid BY PROGRAM, IN A SANDBOX (cutbox-rows.mjs): the forced cells as the released guide's own fill.sh prints them over the translation e9f3b975fe1fc4c3… (all of the seat's roots in one cut). By AI agents, Wed Nov 11 2026. No macro, syntax, notation, axiom, sorry.
-/
import Derived.Test.YtklkchlmmdjpaaaGreatChecked
import GoSem.Claim
import GoSem.ClaimJoined
import GoSem.ClaimMapViews
import Derived.JoinedTies
import Derived.KernelRfl
namespace Go.Proofs.YtklkchlmmdjpaaaGreat
/- THE CELL 'sum', in the pinned program and in every row, IS THE sha256 OF THE DUMP (.gsa) THAT YtklkchlmmdjpaaaGreatProg.lean LOADS. Nothing in Lean hashes anything: it is a label: what it is worth is what the hold of that sum in a sandbox is worth. -/
noncomputable def Tryz.pinned : Pinned := { name := "ytklkchlmmdjpaaagreat", sum := "e9f3b975fe1fc4c33d0302ad7e0e9a044469c6adc3d44cddd6e17e81bfc49901", checked := Tryz.checked }
namespace Rows
def none {H : Type} : Left H := { results := [], args := [] }

/-- 'laws.FnIsSingle': WHATEVER THE INPUT: true; the input reads as it did. -/
def fnIsSingleSpec : ChangeSpec := { name := "fnIsSingle", fn := fun _ => fun
  | [d] => { results := [.lit (.bool true)], args := [d] }
  | _ => none }
def fnIsSingleRow : OpenClaim := { program := "ytklkchlmmdjpaaagreat", sum := "e9f3b975fe1fc4c33d0302ad7e0e9a044469c6adc3d44cddd6e17e81bfc49901", func := "loop.example/wholeway/laws.FnIsSingle", spec := "fnIsSingle", unfollowed := true, recurses := true, plainKeys := false, apart := false }
def FnIsSingleSaid : Prop := fnIsSingleRow.holds Tryz.pinned (OpenSpec.ofChange fnIsSingleSpec)

/-- ITS FALSE NEIGHBOUR: 'it returns false'. Refute it at one input. -/
def fnIsSingleWrong : ChangeSpec := { name := "fnIsSingle", fn := fun _ => fun
  | [d] => { results := [.lit (.bool false)], args := [d] }
  | _ => none }
def FnIsSingleWrongFalsely : Prop := fnIsSingleRow.holds Tryz.pinned (OpenSpec.ofChange fnIsSingleWrong)

/-- 'laws.FnKnownCount': WHATEVER THE INPUT: true; the input reads as it did. -/
def fnKnownCountSpec : ChangeSpec := { name := "fnKnownCount", fn := fun _ => fun
  | [d] => { results := [.lit (.bool true)], args := [d] }
  | _ => none }
def fnKnownCountRow : OpenClaim := { program := "ytklkchlmmdjpaaagreat", sum := "e9f3b975fe1fc4c33d0302ad7e0e9a044469c6adc3d44cddd6e17e81bfc49901", func := "loop.example/wholeway/laws.FnKnownCount", spec := "fnKnownCount", unfollowed := true, recurses := true, plainKeys := false, apart := false }
def FnKnownCountSaid : Prop := fnKnownCountRow.holds Tryz.pinned (OpenSpec.ofChange fnKnownCountSpec)

/-- ITS FALSE NEIGHBOUR: 'it returns false'. Refute it at one input. -/
def fnKnownCountWrong : ChangeSpec := { name := "fnKnownCount", fn := fun _ => fun
  | [d] => { results := [.lit (.bool false)], args := [d] }
  | _ => none }
def FnKnownCountWrongFalsely : Prop := fnKnownCountRow.holds Tryz.pinned (OpenSpec.ofChange fnKnownCountWrong)

/- THE SECOND FORM. 'bulk': how many values and letters a reading holds, each counted each time it is reached (what is shared counts as often as it is met; a slice's spare places count too). A statement '..UptoSaid' is the law's where the arguments, and the package variables that the reading takes, are together of bulk at most 1048576: NARROWER than '..Said'. Prove '..Said' where nothing that the law and all that it calls make is longer than what came in: it says more and counts as full. Else prove '..UptoSaid'. A law counts once. -/
mutual
def uptoBulk {H : Type} : DataW H → Nat
  | .lit (.string bytes) => bytes.length + 1
  | .lit _ => 1
  | .nil => 1
  | .ptr d => uptoBulk d + 1
  | .slice elems spare => uptoBulkAll elems + uptoBulkAll spare + 1
  | .agg parts => uptoBulkAll parts + 1
  | .iface _ d => uptoBulk d + 1
  | .map entries => uptoBulkEntries entries + 1
  | .held _ => 1
def uptoBulkAll {H : Type} : List (DataW H) → Nat
  | [] => 0
  | d :: r => uptoBulk d + uptoBulkAll r
def uptoBulkEntries {H : Type} : List (Lit × DataW H) → Nat
  | [] => 0
  | x :: r => uptoBulkEntry x + uptoBulkEntries r
def uptoBulkEntry {H : Type} : Lit × DataW H → Nat
  | (.string bytes, d) => bytes.length + uptoBulk d + 1
  | (_, d) => uptoBulk d + 1
 end
def uptoSmall : (H : Type) → List (DataW H) → Bool := fun _ ds => decide (uptoBulkAll ds ≤ 1048576)
def OpenSpec.upto (s : _root_.Go.ChangeSpec) : _root_.Go.OpenSpec := { _root_.Go.OpenSpec.ofChange s with cond := some uptoSmall }

/-- 'laws.FnIsSingle', WHERE WHAT IT READS IS OF BULK AT MOST 1048576: true; the input reads as it did. -/
def fnIsSingleUptoRow : OpenClaim := { program := "ytklkchlmmdjpaaagreat", sum := "e9f3b975fe1fc4c33d0302ad7e0e9a044469c6adc3d44cddd6e17e81bfc49901", func := "loop.example/wholeway/laws.FnIsSingle", spec := "fnIsSingle", unfollowed := true, recurses := true, plainKeys := false, apart := false, narrowed := true }
def FnIsSingleUptoSaid : Prop := fnIsSingleUptoRow.holds Tryz.pinned (OpenSpec.upto fnIsSingleSpec)

/-- 'laws.FnKnownCount', WHERE WHAT IT READS IS OF BULK AT MOST 1048576: true; the input reads as it did. -/
def fnKnownCountUptoRow : OpenClaim := { program := "ytklkchlmmdjpaaagreat", sum := "e9f3b975fe1fc4c33d0302ad7e0e9a044469c6adc3d44cddd6e17e81bfc49901", func := "loop.example/wholeway/laws.FnKnownCount", spec := "fnKnownCount", unfollowed := true, recurses := true, plainKeys := false, apart := false, narrowed := true }
def FnKnownCountUptoSaid : Prop := fnKnownCountUptoRow.holds Tryz.pinned (OpenSpec.upto fnKnownCountSpec)

end Rows
end Go.Proofs.YtklkchlmmdjpaaaGreat
