/-
  DERIVED. GIVEN WITH THE SEED: THE CARDS: each row of YteffcgocnkcpiaaDoorRows.lean that lists a variable, with what it lists TIED to the program's text (the seventh form; the later family's looks); each row that meets fmt, with fmt's text TOLD by the authors' own Lean function (tested against real Go, not proved from fmt's source: count such statements apart). THE CARD IS WHAT COUNTS. Prove the row's statement (the work); the ties are given (YteffcgocnkcpiaaDoorTie.lean); close each card by the builder's one call (the guide's Derived/Test/ToyasCard.lean, 'card_holds'). Laid BY PROGRAM, IN A SANDBOX (cutbox-door.mjs). By AI agents, Wed Nov 11 2026. No macro, syntax, notation, axiom, sorry.
-/
import Derived.Test.YteffcgocnkcpiaaDoorRows
import GoSem.ClaimSeven
namespace Go.Proofs.YteffcgocnkcpiaaDoor
namespace Rows

/-- THE TIED CARD OF 'laws.FnExactMostOneColour'. -/
def fnExactMostOneColourCard : Claim7 := { stood := { row := fnExactMostOneColourRow, standIns := [], harness := (true, "77e136c996286df82898b073454c233e06ce1bb1af7fc72a3bf17e6c8292b8b7"), looks := false }, kinds := [], alts := [], laidByText := true, laidKinds := [.data], laidTests := true, laidLooks := .later }
def FnExactMostOneColourCardSaid : Prop := Claim7.holds Tryd.pinned (.plain (OpenSpec.ofChange fnExactMostOneColourSpec)) fnExactMostOneColourCard

/-- THE TIED CARD OF 'laws.FnExactOneColourGroup'. -/
def fnExactOneColourGroupCard : Claim7 := { stood := { row := fnExactOneColourGroupRow, standIns := [], harness := (true, "77e136c996286df82898b073454c233e06ce1bb1af7fc72a3bf17e6c8292b8b7"), looks := false }, kinds := [], alts := [], laidByText := true, laidKinds := [.data], laidTests := true, laidLooks := .later }
def FnExactOneColourGroupCardSaid : Prop := Claim7.holds Tryd.pinned (.plain (OpenSpec.ofChange fnExactOneColourGroupSpec)) fnExactOneColourGroupCard

/-- THE SECOND FORM's CARD OF 'laws.FnExactMostOneColour'. -/
def fnExactMostOneColourUptoCard : Claim7 := { stood := { row := fnExactMostOneColourUptoRow, standIns := [], harness := (true, "77e136c996286df82898b073454c233e06ce1bb1af7fc72a3bf17e6c8292b8b7"), looks := false }, kinds := [], alts := [], laidByText := true, laidKinds := [.data], laidTests := true, laidLooks := .later }
def FnExactMostOneColourUptoCardSaid : Prop := Claim7.holds Tryd.pinned (.plain (OpenSpec.upto fnExactMostOneColourSpec)) fnExactMostOneColourUptoCard

/-- THE SECOND FORM's CARD OF 'laws.FnExactOneColourGroup'. -/
def fnExactOneColourGroupUptoCard : Claim7 := { stood := { row := fnExactOneColourGroupUptoRow, standIns := [], harness := (true, "77e136c996286df82898b073454c233e06ce1bb1af7fc72a3bf17e6c8292b8b7"), looks := false }, kinds := [], alts := [], laidByText := true, laidKinds := [.data], laidTests := true, laidLooks := .later }
def FnExactOneColourGroupUptoCardSaid : Prop := Claim7.holds Tryd.pinned (.plain (OpenSpec.upto fnExactOneColourGroupSpec)) fnExactOneColourGroupUptoCard
end Rows
end Go.Proofs.YteffcgocnkcpiaaDoor
