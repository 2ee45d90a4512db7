/-
  DERIVED. GIVEN WITH THE SEED: THE CARDS: each row of YtnmhhhpllffpeaaDoorRows.lean that lists a variable, with what it lists TIED to the program's text (the seventh form; the later family's looks); each row that meets fmt, with fmt's text TOLD by the authors' own Lean function (tested against real Go, not proved from fmt's source: count such statements apart). THE CARD IS WHAT COUNTS. Prove the row's statement (the work); the ties are given (YtnmhhhpllffpeaaDoorTie.lean); close each card by the builder's one call (the guide's Derived/Test/ToyasCard.lean, 'card_holds'). Laid BY PROGRAM, IN A SANDBOX (cutbox-door.mjs). By AI agents, Wed Nov 11 2026. No macro, syntax, notation, axiom, sorry.
-/
import Derived.Test.YtnmhhhpllffpeaaDoorRows
import GoSem.ClaimSeven
namespace Go.Proofs.YtnmhhhpllffpeaaDoor
namespace Rows

/-- THE TIED CARD OF 'laws.FnExactParsePainting'. -/
def fnExactParsePaintingCard : Claim7 := { stood := { row := fnExactParsePaintingRow, standIns := [], harness := (true, "1d75c7896f05ea27c781af798f4378d71633bf9ee07a147d36a263284563260e"), looks := true }, kinds := [], alts := [], laidByText := true, laidKinds := [.data, .data, .data, .data, .sentinel, .sentinel, .pinned], laidTests := true, laidLooks := .later }
def FnExactParsePaintingCardSaid : Prop := Claim7.holds Tryd.pinned (.plain (OpenSpec.ofChange fnExactParsePaintingSpec)) fnExactParsePaintingCard

/-- THE TIED CARD OF 'laws.FnExactCountSeatings'. -/
def fnExactCountSeatingsCard : Claim7 := { stood := { row := fnExactCountSeatingsRow, standIns := [], harness := (true, "1d75c7896f05ea27c781af798f4378d71633bf9ee07a147d36a263284563260e"), looks := true }, kinds := [], alts := [], laidByText := true, laidKinds := [.data], laidTests := true, laidLooks := .later }
def FnExactCountSeatingsCardSaid : Prop := Claim7.holds Tryd.pinned (.plain (OpenSpec.ofChange fnExactCountSeatingsSpec)) fnExactCountSeatingsCard

/-- THE SECOND FORM's CARD OF 'laws.FnExactParsePainting'. -/
def fnExactParsePaintingUptoCard : Claim7 := { stood := { row := fnExactParsePaintingUptoRow, standIns := [], harness := (true, "1d75c7896f05ea27c781af798f4378d71633bf9ee07a147d36a263284563260e"), looks := true }, kinds := [], alts := [], laidByText := true, laidKinds := [.data, .data, .data, .data, .sentinel, .sentinel, .pinned], laidTests := true, laidLooks := .later }
def FnExactParsePaintingUptoCardSaid : Prop := Claim7.holds Tryd.pinned (.plain (OpenSpec.upto fnExactParsePaintingSpec)) fnExactParsePaintingUptoCard

/-- THE SECOND FORM's CARD OF 'laws.FnExactCountSeatings'. -/
def fnExactCountSeatingsUptoCard : Claim7 := { stood := { row := fnExactCountSeatingsUptoRow, standIns := [], harness := (true, "1d75c7896f05ea27c781af798f4378d71633bf9ee07a147d36a263284563260e"), looks := true }, kinds := [], alts := [], laidByText := true, laidKinds := [.data], laidTests := true, laidLooks := .later }
def FnExactCountSeatingsUptoCardSaid : Prop := Claim7.holds Tryd.pinned (.plain (OpenSpec.upto fnExactCountSeatingsSpec)) fnExactCountSeatingsUptoCard
end Rows
end Go.Proofs.YtnmhhhpllffpeaaDoor
