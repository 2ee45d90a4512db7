/-
  DERIVED. GIVEN WITH THE SEED: THE CARDS: each row of YtipblaifgpnebaaDoorRows.lean that lists a variable, with what it lists TIED to the program's text (the seventh form; the later family's looks); each row that meets fmt, with fmt's text TOLD by the authors' own Lean function (tested against real Go, not proved from fmt's source: count such statements apart). THE CARD IS WHAT COUNTS. Prove the row's statement (the work); the ties are given (YtipblaifgpnebaaDoorTie.lean); close each card by the builder's one call (the guide's Derived/Test/ToyasCard.lean, 'card_holds'). Laid BY PROGRAM, IN A SANDBOX (cutbox-door.mjs). By AI agents, Wed Nov 11 2026. No macro, syntax, notation, axiom, sorry.
-/
import Derived.Test.YtipblaifgpnebaaDoorRows
import GoSem.ClaimSeven
namespace Go.Proofs.YtipblaifgpnebaaDoor
namespace Rows

/-- THE TIED CARD OF 'laws.FnExactNewsAfter'. -/
def fnExactNewsAfterCard : Claim7 := { stood := { row := fnExactNewsAfterRow, standIns := [], harness := (true, "61bb8cef9dd6d336db9ba7060fd90a26be6c952faf9e8c60b9a33263e32f09e4"), looks := false }, kinds := [], alts := [], laidByText := true, laidKinds := [.data], laidTests := true, laidLooks := .later }
def FnExactNewsAfterCardSaid : Prop := Claim7.holds Tryd.pinned (.plain (OpenSpec.ofChange fnExactNewsAfterSpec)) fnExactNewsAfterCard

/-- THE TIED CARD OF 'laws.FnExactCountRoundWalks'. -/
def fnExactCountRoundWalksCard : Claim7 := { stood := { row := fnExactCountRoundWalksRow, standIns := [], harness := (true, "61bb8cef9dd6d336db9ba7060fd90a26be6c952faf9e8c60b9a33263e32f09e4"), looks := false }, kinds := [], alts := [], laidByText := true, laidKinds := [.data], laidTests := true, laidLooks := .later }
def FnExactCountRoundWalksCardSaid : Prop := Claim7.holds Tryd.pinned (.plain (OpenSpec.ofChange fnExactCountRoundWalksSpec)) fnExactCountRoundWalksCard

/-- THE TIED CARD OF 'laws.FnExactMostOneColour'. -/
def fnExactMostOneColourCard : Claim7 := { stood := { row := fnExactMostOneColourRow, standIns := [], harness := (true, "61bb8cef9dd6d336db9ba7060fd90a26be6c952faf9e8c60b9a33263e32f09e4"), looks := false }, kinds := [], alts := [], laidByText := true, laidKinds := [.data], laidTests := true, laidLooks := .later }
def FnExactMostOneColourCardSaid : Prop := Claim7.holds Tryd.pinned (.plain (OpenSpec.ofChange fnExactMostOneColourSpec)) fnExactMostOneColourCard

/-- THE TIED CARD OF 'laws.FnExactCountWalks'. -/
def fnExactCountWalksCard : Claim7 := { stood := { row := fnExactCountWalksRow, standIns := [], harness := (true, "61bb8cef9dd6d336db9ba7060fd90a26be6c952faf9e8c60b9a33263e32f09e4"), looks := false }, kinds := [], alts := [], laidByText := true, laidKinds := [.data], laidTests := true, laidLooks := .later }
def FnExactCountWalksCardSaid : Prop := Claim7.holds Tryd.pinned (.plain (OpenSpec.ofChange fnExactCountWalksSpec)) fnExactCountWalksCard

/-- THE SECOND FORM's CARD OF 'laws.FnExactNewsAfter'. -/
def fnExactNewsAfterUptoCard : Claim7 := { stood := { row := fnExactNewsAfterUptoRow, standIns := [], harness := (true, "61bb8cef9dd6d336db9ba7060fd90a26be6c952faf9e8c60b9a33263e32f09e4"), looks := false }, kinds := [], alts := [], laidByText := true, laidKinds := [.data], laidTests := true, laidLooks := .later }
def FnExactNewsAfterUptoCardSaid : Prop := Claim7.holds Tryd.pinned (.plain (OpenSpec.upto fnExactNewsAfterSpec)) fnExactNewsAfterUptoCard

/-- THE SECOND FORM's CARD OF 'laws.FnExactCountRoundWalks'. -/
def fnExactCountRoundWalksUptoCard : Claim7 := { stood := { row := fnExactCountRoundWalksUptoRow, standIns := [], harness := (true, "61bb8cef9dd6d336db9ba7060fd90a26be6c952faf9e8c60b9a33263e32f09e4"), looks := false }, kinds := [], alts := [], laidByText := true, laidKinds := [.data], laidTests := true, laidLooks := .later }
def FnExactCountRoundWalksUptoCardSaid : Prop := Claim7.holds Tryd.pinned (.plain (OpenSpec.upto fnExactCountRoundWalksSpec)) fnExactCountRoundWalksUptoCard

/-- THE SECOND FORM's CARD OF 'laws.FnExactMostOneColour'. -/
def fnExactMostOneColourUptoCard : Claim7 := { stood := { row := fnExactMostOneColourUptoRow, standIns := [], harness := (true, "61bb8cef9dd6d336db9ba7060fd90a26be6c952faf9e8c60b9a33263e32f09e4"), looks := false }, kinds := [], alts := [], laidByText := true, laidKinds := [.data], laidTests := true, laidLooks := .later }
def FnExactMostOneColourUptoCardSaid : Prop := Claim7.holds Tryd.pinned (.plain (OpenSpec.upto fnExactMostOneColourSpec)) fnExactMostOneColourUptoCard

/-- THE SECOND FORM's CARD OF 'laws.FnExactCountWalks'. -/
def fnExactCountWalksUptoCard : Claim7 := { stood := { row := fnExactCountWalksUptoRow, standIns := [], harness := (true, "61bb8cef9dd6d336db9ba7060fd90a26be6c952faf9e8c60b9a33263e32f09e4"), looks := false }, kinds := [], alts := [], laidByText := true, laidKinds := [.data], laidTests := true, laidLooks := .later }
def FnExactCountWalksUptoCardSaid : Prop := Claim7.holds Tryd.pinned (.plain (OpenSpec.upto fnExactCountWalksSpec)) fnExactCountWalksUptoCard
end Rows
end Go.Proofs.YtipblaifgpnebaaDoor
