/-
  No cell of these rows narrows 'for every input' (looked for: loops, veiled, ifaces, maps, wideKeys, modest, calm, conditions, laid).
  DERIVED. THE GIVEN ROWS OF THIS SEAT. 4 by the template 'for every input the law returns true; each argument reads behind the call as it read before'; 0 by the template 'total and deterministic' (their statements: YtnnmnliebjpgiaaTotals.lean).
  GIVEN WITH THE SEED: the statements are not yours to turn. If you find one false, say at which input.
  Laid BY PROGRAM, IN A SANDBOX (cutbox-rows.mjs): the forced cells as the released guide's own fill.sh prints them over the translation b714a39b5c9e25bc… (all of the seat's roots in one cut). By AI agents, Wed Nov 11 2026. No macro, syntax, notation, axiom, sorry.
-/
import Derived.Test.YtnnmnliebjpgiaaChecked
import GoSem.Claim
import GoSem.ClaimJoined
import GoSem.ClaimMapViews
import Derived.JoinedTies
import Derived.KernelRfl
namespace Go.Proofs.Ytnnmnliebjpgiaa
/- THE CELL 'sum', in the pinned program and in every row, IS THE sha256 OF THE DUMP (.gsa) THAT YtnnmnliebjpgiaaProg.lean LOADS. Nothing in Lean hashes anything: it is a label: what it is worth is what the hold of that sum in a sandbox is worth. -/
noncomputable def Try.pinned : Pinned := { name := "ytnnmnliebjpgiaa", sum := "b714a39b5c9e25bc5c10e1bdeceea89b0be558859b9181202e0580e5256dfa1c", checked := Try.checked }
namespace Rows
def none {H : Type} : Left H := { results := [], args := [] }

/-- 'laws.FnExactStrongNumbers': WHATEVER THE INPUT: true; the input reads as it did. -/
def fnExactStrongNumbersSpec : ChangeSpec := { name := "fnExactStrongNumbers", fn := fun _ => fun
  | [d] => { results := [.lit (.bool true)], args := [d] }
  | _ => none }
def fnExactStrongNumbersRow : OpenClaim := { program := "ytnnmnliebjpgiaa", sum := "b714a39b5c9e25bc5c10e1bdeceea89b0be558859b9181202e0580e5256dfa1c", func := "loop.example/g01257/laws.FnExactStrongNumbers", spec := "fnExactStrongNumbers", unfollowed := true, recurses := true, apart := false }
def FnExactStrongNumbersSaid : Prop := fnExactStrongNumbersRow.holds Try.pinned (OpenSpec.ofChange fnExactStrongNumbersSpec)

/-- ITS FALSE NEIGHBOUR: 'it returns false'. Refute it at one input. -/
def fnExactStrongNumbersWrong : ChangeSpec := { name := "fnExactStrongNumbers", fn := fun _ => fun
  | [d] => { results := [.lit (.bool false)], args := [d] }
  | _ => none }
def FnExactStrongNumbersWrongFalsely : Prop := fnExactStrongNumbersRow.holds Try.pinned (OpenSpec.ofChange fnExactStrongNumbersWrong)

/-- 'laws.FnExactMakeStar': WHATEVER THE INPUT: true; the input reads as it did. -/
def fnExactMakeStarSpec : ChangeSpec := { name := "fnExactMakeStar", fn := fun _ => fun
  | [d1, d2] => { results := [.lit (.bool true)], args := [d1, d2] }
  | _ => none }
def fnExactMakeStarRow : OpenClaim := { program := "ytnnmnliebjpgiaa", sum := "b714a39b5c9e25bc5c10e1bdeceea89b0be558859b9181202e0580e5256dfa1c", func := "loop.example/g01257/laws.FnExactMakeStar", spec := "fnExactMakeStar", recurses := true, apart := false }
def FnExactMakeStarSaid : Prop := fnExactMakeStarRow.holds Try.pinned (OpenSpec.ofChange fnExactMakeStarSpec)

/-- ITS FALSE NEIGHBOUR: 'it returns false'. Refute it at one input. -/
def fnExactMakeStarWrong : ChangeSpec := { name := "fnExactMakeStar", fn := fun _ => fun
  | [d1, d2] => { results := [.lit (.bool false)], args := [d1, d2] }
  | _ => none }
def FnExactMakeStarWrongFalsely : Prop := fnExactMakeStarRow.holds Try.pinned (OpenSpec.ofChange fnExactMakeStarWrong)

/-- 'laws.FnExactTurnSeats': WHATEVER THE INPUT: true; the input reads as it did. -/
def fnExactTurnSeatsSpec : ChangeSpec := { name := "fnExactTurnSeats", fn := fun _ => fun
  | [d1, d2, d3] => { results := [.lit (.bool true)], args := [d1, d2, d3] }
  | _ => none }
def fnExactTurnSeatsRow : OpenClaim := { program := "ytnnmnliebjpgiaa", sum := "b714a39b5c9e25bc5c10e1bdeceea89b0be558859b9181202e0580e5256dfa1c", func := "loop.example/g01257/laws.FnExactTurnSeats", spec := "fnExactTurnSeats", unfollowed := true, recurses := true, apart := false }
def FnExactTurnSeatsSaid : Prop := fnExactTurnSeatsRow.holds Try.pinned (OpenSpec.ofChange fnExactTurnSeatsSpec)

/-- ITS FALSE NEIGHBOUR: 'it returns false'. Refute it at one input. -/
def fnExactTurnSeatsWrong : ChangeSpec := { name := "fnExactTurnSeats", fn := fun _ => fun
  | [d1, d2, d3] => { results := [.lit (.bool false)], args := [d1, d2, d3] }
  | _ => none }
def FnExactTurnSeatsWrongFalsely : Prop := fnExactTurnSeatsRow.holds Try.pinned (OpenSpec.ofChange fnExactTurnSeatsWrong)

/-- 'laws.FnExactCountOneColour': WHATEVER THE INPUT: true; the input reads as it did. -/
def fnExactCountOneColourSpec : ChangeSpec := { name := "fnExactCountOneColour", fn := fun _ => fun
  | [d] => { results := [.lit (.bool true)], args := [d] }
  | _ => none }
def fnExactCountOneColourRow : OpenClaim := { program := "ytnnmnliebjpgiaa", sum := "b714a39b5c9e25bc5c10e1bdeceea89b0be558859b9181202e0580e5256dfa1c", func := "loop.example/g01257/laws.FnExactCountOneColour", spec := "fnExactCountOneColour", unfollowed := true, recurses := true, apart := false }
def FnExactCountOneColourSaid : Prop := fnExactCountOneColourRow.holds Try.pinned (OpenSpec.ofChange fnExactCountOneColourSpec)

/-- ITS FALSE NEIGHBOUR: 'it returns false'. Refute it at one input. -/
def fnExactCountOneColourWrong : ChangeSpec := { name := "fnExactCountOneColour", fn := fun _ => fun
  | [d] => { results := [.lit (.bool false)], args := [d] }
  | _ => none }
def FnExactCountOneColourWrongFalsely : Prop := fnExactCountOneColourRow.holds Try.pinned (OpenSpec.ofChange fnExactCountOneColourWrong)

/- THE SECOND FORM. 'bulk': how many values and letters a reading holds, each counted each time it is reached (what is shared counts as often as it is met; a slice's spare places count too). A statement '..UptoSaid' is the law's where the arguments, and the package variables that the reading takes, are together of bulk at most 1048576: NARROWER than '..Said'. Prove '..Said' where nothing that the law and all that it calls make is longer than what came in: it says more and counts as full. Else prove '..UptoSaid'. A law counts once. -/
mutual
def uptoBulk {H : Type} : DataW H → Nat
  | .lit (.string bytes) => bytes.length + 1
  | .lit _ => 1
  | .nil => 1
  | .ptr d => uptoBulk d + 1
  | .slice elems spare => uptoBulkAll elems + uptoBulkAll spare + 1
  | .agg parts => uptoBulkAll parts + 1
  | .iface _ d => uptoBulk d + 1
  | .map entries => uptoBulkEntries entries + 1
  | .held _ => 1
def uptoBulkAll {H : Type} : List (DataW H) → Nat
  | [] => 0
  | d :: r => uptoBulk d + uptoBulkAll r
def uptoBulkEntries {H : Type} : List (Lit × DataW H) → Nat
  | [] => 0
  | x :: r => uptoBulkEntry x + uptoBulkEntries r
def uptoBulkEntry {H : Type} : Lit × DataW H → Nat
  | (.string bytes, d) => bytes.length + uptoBulk d + 1
  | (_, d) => uptoBulk d + 1
 end
def uptoSmall : (H : Type) → List (DataW H) → Bool := fun _ ds => decide (uptoBulkAll ds ≤ 1048576)
def OpenSpec.upto (s : _root_.Go.ChangeSpec) : _root_.Go.OpenSpec := { _root_.Go.OpenSpec.ofChange s with cond := some uptoSmall }

/-- 'laws.FnExactStrongNumbers', WHERE WHAT IT READS IS OF BULK AT MOST 1048576: true; the input reads as it did. -/
def fnExactStrongNumbersUptoRow : OpenClaim := { program := "ytnnmnliebjpgiaa", sum := "b714a39b5c9e25bc5c10e1bdeceea89b0be558859b9181202e0580e5256dfa1c", func := "loop.example/g01257/laws.FnExactStrongNumbers", spec := "fnExactStrongNumbers", unfollowed := true, recurses := true, apart := false, narrowed := true }
def FnExactStrongNumbersUptoSaid : Prop := fnExactStrongNumbersUptoRow.holds Try.pinned (OpenSpec.upto fnExactStrongNumbersSpec)

/-- 'laws.FnExactMakeStar', WHERE WHAT IT READS IS OF BULK AT MOST 1048576: true; the input reads as it did. -/
def fnExactMakeStarUptoRow : OpenClaim := { program := "ytnnmnliebjpgiaa", sum := "b714a39b5c9e25bc5c10e1bdeceea89b0be558859b9181202e0580e5256dfa1c", func := "loop.example/g01257/laws.FnExactMakeStar", spec := "fnExactMakeStar", recurses := true, apart := false, narrowed := true }
def FnExactMakeStarUptoSaid : Prop := fnExactMakeStarUptoRow.holds Try.pinned (OpenSpec.upto fnExactMakeStarSpec)

/-- 'laws.FnExactTurnSeats', WHERE WHAT IT READS IS OF BULK AT MOST 1048576: true; the input reads as it did. -/
def fnExactTurnSeatsUptoRow : OpenClaim := { program := "ytnnmnliebjpgiaa", sum := "b714a39b5c9e25bc5c10e1bdeceea89b0be558859b9181202e0580e5256dfa1c", func := "loop.example/g01257/laws.FnExactTurnSeats", spec := "fnExactTurnSeats", unfollowed := true, recurses := true, apart := false, narrowed := true }
def FnExactTurnSeatsUptoSaid : Prop := fnExactTurnSeatsUptoRow.holds Try.pinned (OpenSpec.upto fnExactTurnSeatsSpec)

/-- 'laws.FnExactCountOneColour', WHERE WHAT IT READS IS OF BULK AT MOST 1048576: true; the input reads as it did. -/
def fnExactCountOneColourUptoRow : OpenClaim := { program := "ytnnmnliebjpgiaa", sum := "b714a39b5c9e25bc5c10e1bdeceea89b0be558859b9181202e0580e5256dfa1c", func := "loop.example/g01257/laws.FnExactCountOneColour", spec := "fnExactCountOneColour", unfollowed := true, recurses := true, apart := false, narrowed := true }
def FnExactCountOneColourUptoSaid : Prop := fnExactCountOneColourUptoRow.holds Try.pinned (OpenSpec.upto fnExactCountOneColourSpec)

end Rows
end Go.Proofs.Ytnnmnliebjpgiaa
