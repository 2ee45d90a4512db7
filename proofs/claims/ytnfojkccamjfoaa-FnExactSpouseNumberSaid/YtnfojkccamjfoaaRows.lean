/-
  No cell of these rows narrows 'for every input' (looked for: loops, veiled, ifaces, maps, wideKeys, modest, calm, conditions, laid).
  DERIVED. THE GIVEN ROWS OF THIS SEAT. 6 by the template 'for every input the law returns true; each argument reads behind the call as it read before'; 0 by the template 'total and deterministic' (their statements: YtnfojkccamjfoaaTotals.lean).
  GIVEN WITH THE SEED: the statements are not yours to turn. If you find one false, say at which input.
  Laid BY PROGRAM, IN A SANDBOX (cutbox-rows.mjs): the forced cells as the released guide's own fill.sh prints them over the translation 8e90edc4609bd1c3… (all of the seat's roots in one cut). By AI agents, Wed Nov 11 2026. No macro, syntax, notation, axiom, sorry.
-/
import Derived.Test.YtnfojkccamjfoaaChecked
import GoSem.Claim
import GoSem.ClaimJoined
import GoSem.ClaimMapViews
import Derived.JoinedTies
import Derived.KernelRfl
namespace Go.Proofs.Ytnfojkccamjfoaa
/- THE CELL 'sum', in the pinned program and in every row, IS THE sha256 OF THE DUMP (.gsa) THAT YtnfojkccamjfoaaProg.lean LOADS. Nothing in Lean hashes anything: it is a label: what it is worth is what the hold of that sum in a sandbox is worth. -/
noncomputable def Try.pinned : Pinned := { name := "ytnfojkccamjfoaa", sum := "8e90edc4609bd1c35d296099aca873482bc35abaae43f1aba69e065232cac620", checked := Try.checked }
namespace Rows
def none {H : Type} : Left H := { results := [], args := [] }

/-- 'laws.FnExactCountMixed': WHATEVER THE INPUT: true; the input reads as it did. -/
def fnExactCountMixedSpec : ChangeSpec := { name := "fnExactCountMixed", fn := fun _ => fun
  | [d] => { results := [.lit (.bool true)], args := [d] }
  | _ => none }
def fnExactCountMixedRow : OpenClaim := { program := "ytnfojkccamjfoaa", sum := "8e90edc4609bd1c35d296099aca873482bc35abaae43f1aba69e065232cac620", func := "loop.example/g01257/laws.FnExactCountMixed", spec := "fnExactCountMixed", unfollowed := true, recurses := true, apart := false }
def FnExactCountMixedSaid : Prop := fnExactCountMixedRow.holds Try.pinned (OpenSpec.ofChange fnExactCountMixedSpec)

/-- ITS FALSE NEIGHBOUR: 'it returns false'. Refute it at one input. -/
def fnExactCountMixedWrong : ChangeSpec := { name := "fnExactCountMixed", fn := fun _ => fun
  | [d] => { results := [.lit (.bool false)], args := [d] }
  | _ => none }
def FnExactCountMixedWrongFalsely : Prop := fnExactCountMixedRow.holds Try.pinned (OpenSpec.ofChange fnExactCountMixedWrong)

/-- 'laws.FnExactAreCouples': WHATEVER THE INPUT: true; the input reads as it did. -/
def fnExactAreCouplesSpec : ChangeSpec := { name := "fnExactAreCouples", fn := fun _ => fun
  | [d] => { results := [.lit (.bool true)], args := [d] }
  | _ => none }
def fnExactAreCouplesRow : OpenClaim := { program := "ytnfojkccamjfoaa", sum := "8e90edc4609bd1c35d296099aca873482bc35abaae43f1aba69e065232cac620", func := "loop.example/g01257/laws.FnExactAreCouples", spec := "fnExactAreCouples", unfollowed := true, recurses := true, apart := false }
def FnExactAreCouplesSaid : Prop := fnExactAreCouplesRow.holds Try.pinned (OpenSpec.ofChange fnExactAreCouplesSpec)

/-- ITS FALSE NEIGHBOUR: 'it returns false'. Refute it at one input. -/
def fnExactAreCouplesWrong : ChangeSpec := { name := "fnExactAreCouples", fn := fun _ => fun
  | [d] => { results := [.lit (.bool false)], args := [d] }
  | _ => none }
def FnExactAreCouplesWrongFalsely : Prop := fnExactAreCouplesRow.holds Try.pinned (OpenSpec.ofChange fnExactAreCouplesWrong)

/-- 'laws.FnExactRenamePainting': WHATEVER THE INPUT: true; the input reads as it did. -/
def fnExactRenamePaintingSpec : ChangeSpec := { name := "fnExactRenamePainting", fn := fun _ => fun
  | [d1, d2] => { results := [.lit (.bool true)], args := [d1, d2] }
  | _ => none }
def fnExactRenamePaintingRow : OpenClaim := { program := "ytnfojkccamjfoaa", sum := "8e90edc4609bd1c35d296099aca873482bc35abaae43f1aba69e065232cac620", func := "loop.example/g01257/laws.FnExactRenamePainting", spec := "fnExactRenamePainting", unfollowed := true, recurses := true, apart := false }
def FnExactRenamePaintingSaid : Prop := fnExactRenamePaintingRow.holds Try.pinned (OpenSpec.ofChange fnExactRenamePaintingSpec)

/-- ITS FALSE NEIGHBOUR: 'it returns false'. Refute it at one input. -/
def fnExactRenamePaintingWrong : ChangeSpec := { name := "fnExactRenamePainting", fn := fun _ => fun
  | [d1, d2] => { results := [.lit (.bool false)], args := [d1, d2] }
  | _ => none }
def FnExactRenamePaintingWrongFalsely : Prop := fnExactRenamePaintingRow.holds Try.pinned (OpenSpec.ofChange fnExactRenamePaintingWrong)

/-- 'laws.FnExactSpouseNumber': WHATEVER THE INPUT: true; the input reads as it did. -/
def fnExactSpouseNumberSpec : ChangeSpec := { name := "fnExactSpouseNumber", fn := fun _ => fun
  | [d] => { results := [.lit (.bool true)], args := [d] }
  | _ => none }
def fnExactSpouseNumberRow : OpenClaim := { program := "ytnfojkccamjfoaa", sum := "8e90edc4609bd1c35d296099aca873482bc35abaae43f1aba69e065232cac620", func := "loop.example/g01257/laws.FnExactSpouseNumber", spec := "fnExactSpouseNumber", unfollowed := true, recurses := true, apart := false }
def FnExactSpouseNumberSaid : Prop := fnExactSpouseNumberRow.holds Try.pinned (OpenSpec.ofChange fnExactSpouseNumberSpec)

/-- ITS FALSE NEIGHBOUR: 'it returns false'. Refute it at one input. -/
def fnExactSpouseNumberWrong : ChangeSpec := { name := "fnExactSpouseNumber", fn := fun _ => fun
  | [d] => { results := [.lit (.bool false)], args := [d] }
  | _ => none }
def FnExactSpouseNumberWrongFalsely : Prop := fnExactSpouseNumberRow.holds Try.pinned (OpenSpec.ofChange fnExactSpouseNumberWrong)

/-- 'laws.FnExactOneColourThrees': WHATEVER THE INPUT: true; the input reads as it did. -/
def fnExactOneColourThreesSpec : ChangeSpec := { name := "fnExactOneColourThrees", fn := fun _ => fun
  | [d] => { results := [.lit (.bool true)], args := [d] }
  | _ => none }
def fnExactOneColourThreesRow : OpenClaim := { program := "ytnfojkccamjfoaa", sum := "8e90edc4609bd1c35d296099aca873482bc35abaae43f1aba69e065232cac620", func := "loop.example/g01257/laws.FnExactOneColourThrees", spec := "fnExactOneColourThrees", unfollowed := true, recurses := true, apart := false }
def FnExactOneColourThreesSaid : Prop := fnExactOneColourThreesRow.holds Try.pinned (OpenSpec.ofChange fnExactOneColourThreesSpec)

/-- ITS FALSE NEIGHBOUR: 'it returns false'. Refute it at one input. -/
def fnExactOneColourThreesWrong : ChangeSpec := { name := "fnExactOneColourThrees", fn := fun _ => fun
  | [d] => { results := [.lit (.bool false)], args := [d] }
  | _ => none }
def FnExactOneColourThreesWrongFalsely : Prop := fnExactOneColourThreesRow.holds Try.pinned (OpenSpec.ofChange fnExactOneColourThreesWrong)

/-- 'laws.FnExactIsRow': WHATEVER THE INPUT: true; the input reads as it did. -/
def fnExactIsRowSpec : ChangeSpec := { name := "fnExactIsRow", fn := fun _ => fun
  | [d1, d2] => { results := [.lit (.bool true)], args := [d1, d2] }
  | _ => none }
def fnExactIsRowRow : OpenClaim := { program := "ytnfojkccamjfoaa", sum := "8e90edc4609bd1c35d296099aca873482bc35abaae43f1aba69e065232cac620", func := "loop.example/g01257/laws.FnExactIsRow", spec := "fnExactIsRow", unfollowed := true, recurses := true, apart := false }
def FnExactIsRowSaid : Prop := fnExactIsRowRow.holds Try.pinned (OpenSpec.ofChange fnExactIsRowSpec)

/-- ITS FALSE NEIGHBOUR: 'it returns false'. Refute it at one input. -/
def fnExactIsRowWrong : ChangeSpec := { name := "fnExactIsRow", fn := fun _ => fun
  | [d1, d2] => { results := [.lit (.bool false)], args := [d1, d2] }
  | _ => none }
def FnExactIsRowWrongFalsely : Prop := fnExactIsRowRow.holds Try.pinned (OpenSpec.ofChange fnExactIsRowWrong)

/- THE SECOND FORM. 'bulk': how many values and letters a reading holds, each counted each time it is reached (what is shared counts as often as it is met; a slice's spare places count too). A statement '..UptoSaid' is the law's where the arguments, and the package variables that the reading takes, are together of bulk at most 1048576: NARROWER than '..Said'. Prove '..Said' where nothing that the law and all that it calls make is longer than what came in: it says more and counts as full. Else prove '..UptoSaid'. A law counts once. -/
mutual
def uptoBulk {H : Type} : DataW H → Nat
  | .lit (.string bytes) => bytes.length + 1
  | .lit _ => 1
  | .nil => 1
  | .ptr d => uptoBulk d + 1
  | .slice elems spare => uptoBulkAll elems + uptoBulkAll spare + 1
  | .agg parts => uptoBulkAll parts + 1
  | .iface _ d => uptoBulk d + 1
  | .map entries => uptoBulkEntries entries + 1
  | .held _ => 1
def uptoBulkAll {H : Type} : List (DataW H) → Nat
  | [] => 0
  | d :: r => uptoBulk d + uptoBulkAll r
def uptoBulkEntries {H : Type} : List (Lit × DataW H) → Nat
  | [] => 0
  | x :: r => uptoBulkEntry x + uptoBulkEntries r
def uptoBulkEntry {H : Type} : Lit × DataW H → Nat
  | (.string bytes, d) => bytes.length + uptoBulk d + 1
  | (_, d) => uptoBulk d + 1
 end
def uptoSmall : (H : Type) → List (DataW H) → Bool := fun _ ds => decide (uptoBulkAll ds ≤ 1048576)
def OpenSpec.upto (s : _root_.Go.ChangeSpec) : _root_.Go.OpenSpec := { _root_.Go.OpenSpec.ofChange s with cond := some uptoSmall }

/-- 'laws.FnExactCountMixed', WHERE WHAT IT READS IS OF BULK AT MOST 1048576: true; the input reads as it did. -/
def fnExactCountMixedUptoRow : OpenClaim := { program := "ytnfojkccamjfoaa", sum := "8e90edc4609bd1c35d296099aca873482bc35abaae43f1aba69e065232cac620", func := "loop.example/g01257/laws.FnExactCountMixed", spec := "fnExactCountMixed", unfollowed := true, recurses := true, apart := false, narrowed := true }
def FnExactCountMixedUptoSaid : Prop := fnExactCountMixedUptoRow.holds Try.pinned (OpenSpec.upto fnExactCountMixedSpec)

/-- 'laws.FnExactAreCouples', WHERE WHAT IT READS IS OF BULK AT MOST 1048576: true; the input reads as it did. -/
def fnExactAreCouplesUptoRow : OpenClaim := { program := "ytnfojkccamjfoaa", sum := "8e90edc4609bd1c35d296099aca873482bc35abaae43f1aba69e065232cac620", func := "loop.example/g01257/laws.FnExactAreCouples", spec := "fnExactAreCouples", unfollowed := true, recurses := true, apart := false, narrowed := true }
def FnExactAreCouplesUptoSaid : Prop := fnExactAreCouplesUptoRow.holds Try.pinned (OpenSpec.upto fnExactAreCouplesSpec)

/-- 'laws.FnExactRenamePainting', WHERE WHAT IT READS IS OF BULK AT MOST 1048576: true; the input reads as it did. -/
def fnExactRenamePaintingUptoRow : OpenClaim := { program := "ytnfojkccamjfoaa", sum := "8e90edc4609bd1c35d296099aca873482bc35abaae43f1aba69e065232cac620", func := "loop.example/g01257/laws.FnExactRenamePainting", spec := "fnExactRenamePainting", unfollowed := true, recurses := true, apart := false, narrowed := true }
def FnExactRenamePaintingUptoSaid : Prop := fnExactRenamePaintingUptoRow.holds Try.pinned (OpenSpec.upto fnExactRenamePaintingSpec)

/-- 'laws.FnExactSpouseNumber', WHERE WHAT IT READS IS OF BULK AT MOST 1048576: true; the input reads as it did. -/
def fnExactSpouseNumberUptoRow : OpenClaim := { program := "ytnfojkccamjfoaa", sum := "8e90edc4609bd1c35d296099aca873482bc35abaae43f1aba69e065232cac620", func := "loop.example/g01257/laws.FnExactSpouseNumber", spec := "fnExactSpouseNumber", unfollowed := true, recurses := true, apart := false, narrowed := true }
def FnExactSpouseNumberUptoSaid : Prop := fnExactSpouseNumberUptoRow.holds Try.pinned (OpenSpec.upto fnExactSpouseNumberSpec)

/-- 'laws.FnExactOneColourThrees', WHERE WHAT IT READS IS OF BULK AT MOST 1048576: true; the input reads as it did. -/
def fnExactOneColourThreesUptoRow : OpenClaim := { program := "ytnfojkccamjfoaa", sum := "8e90edc4609bd1c35d296099aca873482bc35abaae43f1aba69e065232cac620", func := "loop.example/g01257/laws.FnExactOneColourThrees", spec := "fnExactOneColourThrees", unfollowed := true, recurses := true, apart := false, narrowed := true }
def FnExactOneColourThreesUptoSaid : Prop := fnExactOneColourThreesUptoRow.holds Try.pinned (OpenSpec.upto fnExactOneColourThreesSpec)

/-- 'laws.FnExactIsRow', WHERE WHAT IT READS IS OF BULK AT MOST 1048576: true; the input reads as it did. -/
def fnExactIsRowUptoRow : OpenClaim := { program := "ytnfojkccamjfoaa", sum := "8e90edc4609bd1c35d296099aca873482bc35abaae43f1aba69e065232cac620", func := "loop.example/g01257/laws.FnExactIsRow", spec := "fnExactIsRow", unfollowed := true, recurses := true, apart := false, narrowed := true }
def FnExactIsRowUptoSaid : Prop := fnExactIsRowUptoRow.holds Try.pinned (OpenSpec.upto fnExactIsRowSpec)

end Rows
end Go.Proofs.Ytnfojkccamjfoaa
