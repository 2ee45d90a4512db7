/-
  No cell of these rows narrows 'for every input' (looked for: loops, veiled, ifaces, maps, wideKeys, modest, calm, conditions, laid).
  DERIVED. THE GIVEN ROWS OF THIS SEAT. 3 by the template 'for every input the law returns true; each argument reads behind the call as it read before'; 0 by the template 'total and deterministic' (their statements: YtkmhojpnmebfoaaTotals.lean).
  GIVEN WITH THE SEED: the statements are not yours to turn. If you find one false, say at which input.
  Laid BY PROGRAM, IN A SANDBOX (cutbox-rows.mjs): the forced cells as the released guide's own fill.sh prints them over the translation 37dab108b94f47c2… (all of the seat's roots in one cut). By AI agents, Wed Nov 11 2026. No macro, syntax, notation, axiom, sorry.
-/
import Derived.Test.YtkmhojpnmebfoaaChecked
import GoSem.Claim
import GoSem.ClaimJoined
import GoSem.ClaimMapViews
import Derived.JoinedTies
import Derived.KernelRfl
namespace Go.Proofs.Ytkmhojpnmebfoaa
/- THE CELL 'sum', in the pinned program and in every row, IS THE sha256 OF THE DUMP (.gsa) THAT YtkmhojpnmebfoaaProg.lean LOADS. Nothing in Lean hashes anything: it is a label: what it is worth is what the hold of that sum in a sandbox is worth. -/
noncomputable def Try.pinned : Pinned := { name := "ytkmhojpnmebfoaa", sum := "37dab108b94f47c2b8002502e640bb78b57c32457f5f72316696b338c87b771a", checked := Try.checked }
namespace Rows
def none {H : Type} : Left H := { results := [], args := [] }

/-- 'laws.FnExactOneColourThrees': WHATEVER THE INPUT: true; the input reads as it did. -/
def fnExactOneColourThreesSpec : ChangeSpec := { name := "fnExactOneColourThrees", fn := fun _ => fun
  | [d] => { results := [.lit (.bool true)], args := [d] }
  | _ => none }
def fnExactOneColourThreesRow : OpenClaim := { program := "ytkmhojpnmebfoaa", sum := "37dab108b94f47c2b8002502e640bb78b57c32457f5f72316696b338c87b771a", func := "loop.example/g01257/laws.FnExactOneColourThrees", spec := "fnExactOneColourThrees", unfollowed := true, recurses := true, apart := false }
def FnExactOneColourThreesSaid : Prop := fnExactOneColourThreesRow.holds Try.pinned (OpenSpec.ofChange fnExactOneColourThreesSpec)

/-- ITS FALSE NEIGHBOUR: 'it returns false'. Refute it at one input. -/
def fnExactOneColourThreesWrong : ChangeSpec := { name := "fnExactOneColourThrees", fn := fun _ => fun
  | [d] => { results := [.lit (.bool false)], args := [d] }
  | _ => none }
def FnExactOneColourThreesWrongFalsely : Prop := fnExactOneColourThreesRow.holds Try.pinned (OpenSpec.ofChange fnExactOneColourThreesWrong)

/-- 'laws.FnExactCountOneColour': WHATEVER THE INPUT: true; the input reads as it did. -/
def fnExactCountOneColourSpec : ChangeSpec := { name := "fnExactCountOneColour", fn := fun _ => fun
  | [d] => { results := [.lit (.bool true)], args := [d] }
  | _ => none }
def fnExactCountOneColourRow : OpenClaim := { program := "ytkmhojpnmebfoaa", sum := "37dab108b94f47c2b8002502e640bb78b57c32457f5f72316696b338c87b771a", func := "loop.example/g01257/laws.FnExactCountOneColour", spec := "fnExactCountOneColour", unfollowed := true, recurses := true, apart := false }
def FnExactCountOneColourSaid : Prop := fnExactCountOneColourRow.holds Try.pinned (OpenSpec.ofChange fnExactCountOneColourSpec)

/-- ITS FALSE NEIGHBOUR: 'it returns false'. Refute it at one input. -/
def fnExactCountOneColourWrong : ChangeSpec := { name := "fnExactCountOneColour", fn := fun _ => fun
  | [d] => { results := [.lit (.bool false)], args := [d] }
  | _ => none }
def FnExactCountOneColourWrongFalsely : Prop := fnExactCountOneColourRow.holds Try.pinned (OpenSpec.ofChange fnExactCountOneColourWrong)

/-- 'laws.FnExactCountMixed': WHATEVER THE INPUT: true; the input reads as it did. -/
def fnExactCountMixedSpec : ChangeSpec := { name := "fnExactCountMixed", fn := fun _ => fun
  | [d] => { results := [.lit (.bool true)], args := [d] }
  | _ => none }
def fnExactCountMixedRow : OpenClaim := { program := "ytkmhojpnmebfoaa", sum := "37dab108b94f47c2b8002502e640bb78b57c32457f5f72316696b338c87b771a", func := "loop.example/g01257/laws.FnExactCountMixed", spec := "fnExactCountMixed", unfollowed := true, recurses := true, apart := false }
def FnExactCountMixedSaid : Prop := fnExactCountMixedRow.holds Try.pinned (OpenSpec.ofChange fnExactCountMixedSpec)

/-- ITS FALSE NEIGHBOUR: 'it returns false'. Refute it at one input. -/
def fnExactCountMixedWrong : ChangeSpec := { name := "fnExactCountMixed", fn := fun _ => fun
  | [d] => { results := [.lit (.bool false)], args := [d] }
  | _ => none }
def FnExactCountMixedWrongFalsely : Prop := fnExactCountMixedRow.holds Try.pinned (OpenSpec.ofChange fnExactCountMixedWrong)

/- THE SECOND FORM. 'bulk': how many values and letters a reading holds, each counted each time it is reached (what is shared counts as often as it is met; a slice's spare places count too). A statement '..UptoSaid' is the law's where the arguments, and the package variables that the reading takes, are together of bulk at most 1048576: NARROWER than '..Said'. Prove '..Said' where nothing that the law and all that it calls make is longer than what came in: it says more and counts as full. Else prove '..UptoSaid'. A law counts once. -/
mutual
def uptoBulk {H : Type} : DataW H → Nat
  | .lit (.string bytes) => bytes.length + 1
  | .lit _ => 1
  | .nil => 1
  | .ptr d => uptoBulk d + 1
  | .slice elems spare => uptoBulkAll elems + uptoBulkAll spare + 1
  | .agg parts => uptoBulkAll parts + 1
  | .iface _ d => uptoBulk d + 1
  | .map entries => uptoBulkEntries entries + 1
  | .held _ => 1
def uptoBulkAll {H : Type} : List (DataW H) → Nat
  | [] => 0
  | d :: r => uptoBulk d + uptoBulkAll r
def uptoBulkEntries {H : Type} : List (Lit × DataW H) → Nat
  | [] => 0
  | x :: r => uptoBulkEntry x + uptoBulkEntries r
def uptoBulkEntry {H : Type} : Lit × DataW H → Nat
  | (.string bytes, d) => bytes.length + uptoBulk d + 1
  | (_, d) => uptoBulk d + 1
 end
def uptoSmall : (H : Type) → List (DataW H) → Bool := fun _ ds => decide (uptoBulkAll ds ≤ 1048576)
def OpenSpec.upto (s : _root_.Go.ChangeSpec) : _root_.Go.OpenSpec := { _root_.Go.OpenSpec.ofChange s with cond := some uptoSmall }

/-- 'laws.FnExactOneColourThrees', WHERE WHAT IT READS IS OF BULK AT MOST 1048576: true; the input reads as it did. -/
def fnExactOneColourThreesUptoRow : OpenClaim := { program := "ytkmhojpnmebfoaa", sum := "37dab108b94f47c2b8002502e640bb78b57c32457f5f72316696b338c87b771a", func := "loop.example/g01257/laws.FnExactOneColourThrees", spec := "fnExactOneColourThrees", unfollowed := true, recurses := true, apart := false, narrowed := true }
def FnExactOneColourThreesUptoSaid : Prop := fnExactOneColourThreesUptoRow.holds Try.pinned (OpenSpec.upto fnExactOneColourThreesSpec)

/-- 'laws.FnExactCountOneColour', WHERE WHAT IT READS IS OF BULK AT MOST 1048576: true; the input reads as it did. -/
def fnExactCountOneColourUptoRow : OpenClaim := { program := "ytkmhojpnmebfoaa", sum := "37dab108b94f47c2b8002502e640bb78b57c32457f5f72316696b338c87b771a", func := "loop.example/g01257/laws.FnExactCountOneColour", spec := "fnExactCountOneColour", unfollowed := true, recurses := true, apart := false, narrowed := true }
def FnExactCountOneColourUptoSaid : Prop := fnExactCountOneColourUptoRow.holds Try.pinned (OpenSpec.upto fnExactCountOneColourSpec)

/-- 'laws.FnExactCountMixed', WHERE WHAT IT READS IS OF BULK AT MOST 1048576: true; the input reads as it did. -/
def fnExactCountMixedUptoRow : OpenClaim := { program := "ytkmhojpnmebfoaa", sum := "37dab108b94f47c2b8002502e640bb78b57c32457f5f72316696b338c87b771a", func := "loop.example/g01257/laws.FnExactCountMixed", spec := "fnExactCountMixed", unfollowed := true, recurses := true, apart := false, narrowed := true }
def FnExactCountMixedUptoSaid : Prop := fnExactCountMixedUptoRow.holds Try.pinned (OpenSpec.upto fnExactCountMixedSpec)

end Rows
end Go.Proofs.Ytkmhojpnmebfoaa
