/-
  No cell of these rows narrows 'for every input' (looked for: loops, veiled, ifaces, maps, wideKeys, modest, calm, conditions, laid).
  DERIVED. THE GIVEN ROWS OF THIS SEAT. 6 by the template 'for every input the law returns true; each argument reads behind the call as it read before'; 0 by the template 'total and deterministic' (their statements: YtjlmljidmjnheaaTotals.lean).
  GIVEN WITH THE SEED: the statements are not yours to turn. If you find one false, say at which input.
  Laid BY PROGRAM, IN A SANDBOX (cutbox-rows.mjs): the forced cells as the released guide's own fill.sh prints them over the translation 7c93df2f9e6a8d2b… (all of the seat's roots in one cut). By AI agents, Wed Nov 11 2026. No macro, syntax, notation, axiom, sorry.
-/
import Derived.Test.YtjlmljidmjnheaaChecked
import GoSem.Claim
import GoSem.ClaimJoined
import GoSem.ClaimMapViews
import Derived.JoinedTies
import Derived.KernelRfl
namespace Go.Proofs.Ytjlmljidmjnheaa
/- THE CELL 'sum', in the pinned program and in every row, IS THE sha256 OF THE DUMP (.gsa) THAT YtjlmljidmjnheaaProg.lean LOADS. Nothing in Lean hashes anything: it is a label: what it is worth is what the hold of that sum in a sandbox is worth. -/
noncomputable def Try.pinned : Pinned := { name := "ytjlmljidmjnheaa", sum := "7c93df2f9e6a8d2b9604744683dffc2b069d71b75f58860e57120d3f10101dff", checked := Try.checked }
namespace Rows
def none {H : Type} : Left H := { results := [], args := [] }

/-- 'laws.FnExactPartyOfColour': WHATEVER THE INPUT: true; the input reads as it did. -/
def fnExactPartyOfColourSpec : ChangeSpec := { name := "fnExactPartyOfColour", fn := fun _ => fun
  | [d1, d2] => { results := [.lit (.bool true)], args := [d1, d2] }
  | _ => none }
def fnExactPartyOfColourRow : OpenClaim := { program := "ytjlmljidmjnheaa", sum := "7c93df2f9e6a8d2b9604744683dffc2b069d71b75f58860e57120d3f10101dff", func := "loop.example/g01257/laws.FnExactPartyOfColour", spec := "fnExactPartyOfColour", unfollowed := true, recurses := true, apart := false }
def FnExactPartyOfColourSaid : Prop := fnExactPartyOfColourRow.holds Try.pinned (OpenSpec.ofChange fnExactPartyOfColourSpec)

/-- ITS FALSE NEIGHBOUR: 'it returns false'. Refute it at one input. -/
def fnExactPartyOfColourWrong : ChangeSpec := { name := "fnExactPartyOfColour", fn := fun _ => fun
  | [d1, d2] => { results := [.lit (.bool false)], args := [d1, d2] }
  | _ => none }
def FnExactPartyOfColourWrongFalsely : Prop := fnExactPartyOfColourRow.holds Try.pinned (OpenSpec.ofChange fnExactPartyOfColourWrong)

/-- 'laws.FnExactCommonTable': WHATEVER THE INPUT: true; the input reads as it did. -/
def fnExactCommonTableSpec : ChangeSpec := { name := "fnExactCommonTable", fn := fun _ => fun
  | [d] => { results := [.lit (.bool true)], args := [d] }
  | _ => none }
def fnExactCommonTableRow : OpenClaim := { program := "ytjlmljidmjnheaa", sum := "7c93df2f9e6a8d2b9604744683dffc2b069d71b75f58860e57120d3f10101dff", func := "loop.example/g01257/laws.FnExactCommonTable", spec := "fnExactCommonTable", apart := false }
def FnExactCommonTableSaid : Prop := fnExactCommonTableRow.holds Try.pinned (OpenSpec.ofChange fnExactCommonTableSpec)

/-- ITS FALSE NEIGHBOUR: 'it returns false'. Refute it at one input. -/
def fnExactCommonTableWrong : ChangeSpec := { name := "fnExactCommonTable", fn := fun _ => fun
  | [d] => { results := [.lit (.bool false)], args := [d] }
  | _ => none }
def FnExactCommonTableWrongFalsely : Prop := fnExactCommonTableRow.holds Try.pinned (OpenSpec.ofChange fnExactCommonTableWrong)

/-- 'laws.FnExactQuestionsForStar': WHATEVER THE INPUT: true; the input reads as it did. -/
def fnExactQuestionsForStarSpec : ChangeSpec := { name := "fnExactQuestionsForStar", fn := fun _ => fun
  | [d] => { results := [.lit (.bool true)], args := [d] }
  | _ => none }
def fnExactQuestionsForStarRow : OpenClaim := { program := "ytjlmljidmjnheaa", sum := "7c93df2f9e6a8d2b9604744683dffc2b069d71b75f58860e57120d3f10101dff", func := "loop.example/g01257/laws.FnExactQuestionsForStar", spec := "fnExactQuestionsForStar", unfollowed := true, recurses := true, apart := false }
def FnExactQuestionsForStarSaid : Prop := fnExactQuestionsForStarRow.holds Try.pinned (OpenSpec.ofChange fnExactQuestionsForStarSpec)

/-- ITS FALSE NEIGHBOUR: 'it returns false'. Refute it at one input. -/
def fnExactQuestionsForStarWrong : ChangeSpec := { name := "fnExactQuestionsForStar", fn := fun _ => fun
  | [d] => { results := [.lit (.bool false)], args := [d] }
  | _ => none }
def FnExactQuestionsForStarWrongFalsely : Prop := fnExactQuestionsForStarRow.holds Try.pinned (OpenSpec.ofChange fnExactQuestionsForStarWrong)

/-- 'laws.FnExactFirstRow': WHATEVER THE INPUT: true; the input reads as it did. -/
def fnExactFirstRowSpec : ChangeSpec := { name := "fnExactFirstRow", fn := fun _ => fun
  | [d] => { results := [.lit (.bool true)], args := [d] }
  | _ => none }
def fnExactFirstRowRow : OpenClaim := { program := "ytjlmljidmjnheaa", sum := "7c93df2f9e6a8d2b9604744683dffc2b069d71b75f58860e57120d3f10101dff", func := "loop.example/g01257/laws.FnExactFirstRow", spec := "fnExactFirstRow", unfollowed := true, recurses := true, apart := false }
def FnExactFirstRowSaid : Prop := fnExactFirstRowRow.holds Try.pinned (OpenSpec.ofChange fnExactFirstRowSpec)

/-- ITS FALSE NEIGHBOUR: 'it returns false'. Refute it at one input. -/
def fnExactFirstRowWrong : ChangeSpec := { name := "fnExactFirstRow", fn := fun _ => fun
  | [d] => { results := [.lit (.bool false)], args := [d] }
  | _ => none }
def FnExactFirstRowWrongFalsely : Prop := fnExactFirstRowRow.holds Try.pinned (OpenSpec.ofChange fnExactFirstRowWrong)

/-- 'laws.FnExactFirstSeating': WHATEVER THE INPUT: true; the input reads as it did. -/
def fnExactFirstSeatingSpec : ChangeSpec := { name := "fnExactFirstSeating", fn := fun _ => fun
  | [d] => { results := [.lit (.bool true)], args := [d] }
  | _ => none }
def fnExactFirstSeatingRow : OpenClaim := { program := "ytjlmljidmjnheaa", sum := "7c93df2f9e6a8d2b9604744683dffc2b069d71b75f58860e57120d3f10101dff", func := "loop.example/g01257/laws.FnExactFirstSeating", spec := "fnExactFirstSeating", unfollowed := true, recurses := true, apart := false }
def FnExactFirstSeatingSaid : Prop := fnExactFirstSeatingRow.holds Try.pinned (OpenSpec.ofChange fnExactFirstSeatingSpec)

/-- ITS FALSE NEIGHBOUR: 'it returns false'. Refute it at one input. -/
def fnExactFirstSeatingWrong : ChangeSpec := { name := "fnExactFirstSeating", fn := fun _ => fun
  | [d] => { results := [.lit (.bool false)], args := [d] }
  | _ => none }
def FnExactFirstSeatingWrongFalsely : Prop := fnExactFirstSeatingRow.holds Try.pinned (OpenSpec.ofChange fnExactFirstSeatingWrong)

/-- 'laws.FnExactPaintingOf': WHATEVER THE INPUT: true; the input reads as it did. -/
def fnExactPaintingOfSpec : ChangeSpec := { name := "fnExactPaintingOf", fn := fun _ => fun
  | [d] => { results := [.lit (.bool true)], args := [d] }
  | _ => none }
def fnExactPaintingOfRow : OpenClaim := { program := "ytjlmljidmjnheaa", sum := "7c93df2f9e6a8d2b9604744683dffc2b069d71b75f58860e57120d3f10101dff", func := "loop.example/g01257/laws.FnExactPaintingOf", spec := "fnExactPaintingOf", apart := false }
def FnExactPaintingOfSaid : Prop := fnExactPaintingOfRow.holds Try.pinned (OpenSpec.ofChange fnExactPaintingOfSpec)

/-- ITS FALSE NEIGHBOUR: 'it returns false'. Refute it at one input. -/
def fnExactPaintingOfWrong : ChangeSpec := { name := "fnExactPaintingOf", fn := fun _ => fun
  | [d] => { results := [.lit (.bool false)], args := [d] }
  | _ => none }
def FnExactPaintingOfWrongFalsely : Prop := fnExactPaintingOfRow.holds Try.pinned (OpenSpec.ofChange fnExactPaintingOfWrong)

/- THE SECOND FORM. 'bulk': how many values and letters a reading holds, each counted each time it is reached (what is shared counts as often as it is met; a slice's spare places count too). A statement '..UptoSaid' is the law's where the arguments, and the package variables that the reading takes, are together of bulk at most 1048576: NARROWER than '..Said'. Prove '..Said' where nothing that the law and all that it calls make is longer than what came in: it says more and counts as full. Else prove '..UptoSaid'. A law counts once. -/
mutual
def uptoBulk {H : Type} : DataW H → Nat
  | .lit (.string bytes) => bytes.length + 1
  | .lit _ => 1
  | .nil => 1
  | .ptr d => uptoBulk d + 1
  | .slice elems spare => uptoBulkAll elems + uptoBulkAll spare + 1
  | .agg parts => uptoBulkAll parts + 1
  | .iface _ d => uptoBulk d + 1
  | .map entries => uptoBulkEntries entries + 1
  | .held _ => 1
def uptoBulkAll {H : Type} : List (DataW H) → Nat
  | [] => 0
  | d :: r => uptoBulk d + uptoBulkAll r
def uptoBulkEntries {H : Type} : List (Lit × DataW H) → Nat
  | [] => 0
  | x :: r => uptoBulkEntry x + uptoBulkEntries r
def uptoBulkEntry {H : Type} : Lit × DataW H → Nat
  | (.string bytes, d) => bytes.length + uptoBulk d + 1
  | (_, d) => uptoBulk d + 1
 end
def uptoSmall : (H : Type) → List (DataW H) → Bool := fun _ ds => decide (uptoBulkAll ds ≤ 1048576)
def OpenSpec.upto (s : _root_.Go.ChangeSpec) : _root_.Go.OpenSpec := { _root_.Go.OpenSpec.ofChange s with cond := some uptoSmall }

/-- 'laws.FnExactPartyOfColour', WHERE WHAT IT READS IS OF BULK AT MOST 1048576: true; the input reads as it did. -/
def fnExactPartyOfColourUptoRow : OpenClaim := { program := "ytjlmljidmjnheaa", sum := "7c93df2f9e6a8d2b9604744683dffc2b069d71b75f58860e57120d3f10101dff", func := "loop.example/g01257/laws.FnExactPartyOfColour", spec := "fnExactPartyOfColour", unfollowed := true, recurses := true, apart := false, narrowed := true }
def FnExactPartyOfColourUptoSaid : Prop := fnExactPartyOfColourUptoRow.holds Try.pinned (OpenSpec.upto fnExactPartyOfColourSpec)

/-- 'laws.FnExactCommonTable', WHERE WHAT IT READS IS OF BULK AT MOST 1048576: true; the input reads as it did. -/
def fnExactCommonTableUptoRow : OpenClaim := { program := "ytjlmljidmjnheaa", sum := "7c93df2f9e6a8d2b9604744683dffc2b069d71b75f58860e57120d3f10101dff", func := "loop.example/g01257/laws.FnExactCommonTable", spec := "fnExactCommonTable", apart := false, narrowed := true }
def FnExactCommonTableUptoSaid : Prop := fnExactCommonTableUptoRow.holds Try.pinned (OpenSpec.upto fnExactCommonTableSpec)

/-- 'laws.FnExactQuestionsForStar', WHERE WHAT IT READS IS OF BULK AT MOST 1048576: true; the input reads as it did. -/
def fnExactQuestionsForStarUptoRow : OpenClaim := { program := "ytjlmljidmjnheaa", sum := "7c93df2f9e6a8d2b9604744683dffc2b069d71b75f58860e57120d3f10101dff", func := "loop.example/g01257/laws.FnExactQuestionsForStar", spec := "fnExactQuestionsForStar", unfollowed := true, recurses := true, apart := false, narrowed := true }
def FnExactQuestionsForStarUptoSaid : Prop := fnExactQuestionsForStarUptoRow.holds Try.pinned (OpenSpec.upto fnExactQuestionsForStarSpec)

/-- 'laws.FnExactFirstRow', WHERE WHAT IT READS IS OF BULK AT MOST 1048576: true; the input reads as it did. -/
def fnExactFirstRowUptoRow : OpenClaim := { program := "ytjlmljidmjnheaa", sum := "7c93df2f9e6a8d2b9604744683dffc2b069d71b75f58860e57120d3f10101dff", func := "loop.example/g01257/laws.FnExactFirstRow", spec := "fnExactFirstRow", unfollowed := true, recurses := true, apart := false, narrowed := true }
def FnExactFirstRowUptoSaid : Prop := fnExactFirstRowUptoRow.holds Try.pinned (OpenSpec.upto fnExactFirstRowSpec)

/-- 'laws.FnExactFirstSeating', WHERE WHAT IT READS IS OF BULK AT MOST 1048576: true; the input reads as it did. -/
def fnExactFirstSeatingUptoRow : OpenClaim := { program := "ytjlmljidmjnheaa", sum := "7c93df2f9e6a8d2b9604744683dffc2b069d71b75f58860e57120d3f10101dff", func := "loop.example/g01257/laws.FnExactFirstSeating", spec := "fnExactFirstSeating", unfollowed := true, recurses := true, apart := false, narrowed := true }
def FnExactFirstSeatingUptoSaid : Prop := fnExactFirstSeatingUptoRow.holds Try.pinned (OpenSpec.upto fnExactFirstSeatingSpec)

/-- 'laws.FnExactPaintingOf', WHERE WHAT IT READS IS OF BULK AT MOST 1048576: true; the input reads as it did. -/
def fnExactPaintingOfUptoRow : OpenClaim := { program := "ytjlmljidmjnheaa", sum := "7c93df2f9e6a8d2b9604744683dffc2b069d71b75f58860e57120d3f10101dff", func := "loop.example/g01257/laws.FnExactPaintingOf", spec := "fnExactPaintingOf", apart := false, narrowed := true }
def FnExactPaintingOfUptoSaid : Prop := fnExactPaintingOfUptoRow.holds Try.pinned (OpenSpec.upto fnExactPaintingOfSpec)

end Rows
end Go.Proofs.Ytjlmljidmjnheaa
