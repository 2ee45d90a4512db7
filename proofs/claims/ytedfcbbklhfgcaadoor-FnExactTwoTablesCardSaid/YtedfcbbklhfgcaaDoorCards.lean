/-
  DERIVED. GIVEN WITH THE SEED: THE CARDS: each row of YtedfcbbklhfgcaaDoorRows.lean that lists a variable, with what it lists TIED to the program's text (the seventh form; the later family's looks); each row that meets fmt, with fmt's text TOLD by the authors' own Lean function (tested against real Go, not proved from fmt's source: count such statements apart). THE CARD IS WHAT COUNTS. Prove the row's statement (the work); the ties are given (YtedfcbbklhfgcaaDoorTie.lean); close each card by the builder's one call (the guide's Derived/Test/ToyasCard.lean, 'card_holds'). Laid BY PROGRAM, IN A SANDBOX (cutbox-door.mjs). By AI agents, Wed Nov 11 2026. No macro, syntax, notation, axiom, sorry.
-/
import Derived.Test.YtedfcbbklhfgcaaDoorRows
import GoSem.ClaimSeven
namespace Go.Proofs.YtedfcbbklhfgcaaDoor
namespace Rows

/-- THE TIED CARD OF 'laws.FnExactDistanceOf'. -/
def fnExactDistanceOfCard : Claim7 := { stood := { row := fnExactDistanceOfRow, standIns := [], harness := (true, "4046af946fe63fdff8073d1964145ae5b0b68cb83e17b2b2f0dec867dd881ea9"), looks := false }, kinds := [], alts := [], laidByText := true, laidKinds := [.data], laidTests := true, laidLooks := .later }
def FnExactDistanceOfCardSaid : Prop := Claim7.holds Tryd.pinned (.plain (OpenSpec.ofChange fnExactDistanceOfSpec)) fnExactDistanceOfCard

/-- THE TIED CARD OF 'laws.FnExactShortestRound'. -/
def fnExactShortestRoundCard : Claim7 := { stood := { row := fnExactShortestRoundRow, standIns := [], harness := (true, "4046af946fe63fdff8073d1964145ae5b0b68cb83e17b2b2f0dec867dd881ea9"), looks := false }, kinds := [], alts := [], laidByText := true, laidKinds := [.data], laidTests := true, laidLooks := .later }
def FnExactShortestRoundCardSaid : Prop := Claim7.holds Tryd.pinned (.plain (OpenSpec.ofChange fnExactShortestRoundSpec)) fnExactShortestRoundCard

/-- THE TIED CARD OF 'laws.FnExactWidestDistance'. -/
def fnExactWidestDistanceCard : Claim7 := { stood := { row := fnExactWidestDistanceRow, standIns := [], harness := (true, "4046af946fe63fdff8073d1964145ae5b0b68cb83e17b2b2f0dec867dd881ea9"), looks := false }, kinds := [], alts := [], laidByText := true, laidKinds := [.data], laidTests := true, laidLooks := .later }
def FnExactWidestDistanceCardSaid : Prop := Claim7.holds Tryd.pinned (.plain (OpenSpec.ofChange fnExactWidestDistanceSpec)) fnExactWidestDistanceCard

/-- THE TIED CARD OF 'laws.FnExactTablesApart'. -/
def fnExactTablesApartCard : Claim7 := { stood := { row := fnExactTablesApartRow, standIns := [], harness := (true, "4046af946fe63fdff8073d1964145ae5b0b68cb83e17b2b2f0dec867dd881ea9"), looks := false }, kinds := [], alts := [], laidByText := true, laidKinds := [.data], laidTests := true, laidLooks := .later }
def FnExactTablesApartCardSaid : Prop := Claim7.holds Tryd.pinned (.plain (OpenSpec.ofChange fnExactTablesApartSpec)) fnExactTablesApartCard

/-- THE TIED CARD OF 'laws.FnExactTwoTables'. -/
def fnExactTwoTablesCard : Claim7 := { stood := { row := fnExactTwoTablesRow, standIns := [], harness := (true, "4046af946fe63fdff8073d1964145ae5b0b68cb83e17b2b2f0dec867dd881ea9"), looks := false }, kinds := [], alts := [], laidByText := true, laidKinds := [.data], laidTests := true, laidLooks := .later }
def FnExactTwoTablesCardSaid : Prop := Claim7.holds Tryd.pinned (.plain (OpenSpec.ofChange fnExactTwoTablesSpec)) fnExactTwoTablesCard

/-- THE SECOND FORM's CARD OF 'laws.FnExactDistanceOf'. -/
def fnExactDistanceOfUptoCard : Claim7 := { stood := { row := fnExactDistanceOfUptoRow, standIns := [], harness := (true, "4046af946fe63fdff8073d1964145ae5b0b68cb83e17b2b2f0dec867dd881ea9"), looks := false }, kinds := [], alts := [], laidByText := true, laidKinds := [.data], laidTests := true, laidLooks := .later }
def FnExactDistanceOfUptoCardSaid : Prop := Claim7.holds Tryd.pinned (.plain (OpenSpec.upto fnExactDistanceOfSpec)) fnExactDistanceOfUptoCard

/-- THE SECOND FORM's CARD OF 'laws.FnExactShortestRound'. -/
def fnExactShortestRoundUptoCard : Claim7 := { stood := { row := fnExactShortestRoundUptoRow, standIns := [], harness := (true, "4046af946fe63fdff8073d1964145ae5b0b68cb83e17b2b2f0dec867dd881ea9"), looks := false }, kinds := [], alts := [], laidByText := true, laidKinds := [.data], laidTests := true, laidLooks := .later }
def FnExactShortestRoundUptoCardSaid : Prop := Claim7.holds Tryd.pinned (.plain (OpenSpec.upto fnExactShortestRoundSpec)) fnExactShortestRoundUptoCard

/-- THE SECOND FORM's CARD OF 'laws.FnExactWidestDistance'. -/
def fnExactWidestDistanceUptoCard : Claim7 := { stood := { row := fnExactWidestDistanceUptoRow, standIns := [], harness := (true, "4046af946fe63fdff8073d1964145ae5b0b68cb83e17b2b2f0dec867dd881ea9"), looks := false }, kinds := [], alts := [], laidByText := true, laidKinds := [.data], laidTests := true, laidLooks := .later }
def FnExactWidestDistanceUptoCardSaid : Prop := Claim7.holds Tryd.pinned (.plain (OpenSpec.upto fnExactWidestDistanceSpec)) fnExactWidestDistanceUptoCard

/-- THE SECOND FORM's CARD OF 'laws.FnExactTablesApart'. -/
def fnExactTablesApartUptoCard : Claim7 := { stood := { row := fnExactTablesApartUptoRow, standIns := [], harness := (true, "4046af946fe63fdff8073d1964145ae5b0b68cb83e17b2b2f0dec867dd881ea9"), looks := false }, kinds := [], alts := [], laidByText := true, laidKinds := [.data], laidTests := true, laidLooks := .later }
def FnExactTablesApartUptoCardSaid : Prop := Claim7.holds Tryd.pinned (.plain (OpenSpec.upto fnExactTablesApartSpec)) fnExactTablesApartUptoCard

/-- THE SECOND FORM's CARD OF 'laws.FnExactTwoTables'. -/
def fnExactTwoTablesUptoCard : Claim7 := { stood := { row := fnExactTwoTablesUptoRow, standIns := [], harness := (true, "4046af946fe63fdff8073d1964145ae5b0b68cb83e17b2b2f0dec867dd881ea9"), looks := false }, kinds := [], alts := [], laidByText := true, laidKinds := [.data], laidTests := true, laidLooks := .later }
def FnExactTwoTablesUptoCardSaid : Prop := Claim7.holds Tryd.pinned (.plain (OpenSpec.upto fnExactTwoTablesSpec)) fnExactTwoTablesUptoCard
end Rows
end Go.Proofs.YtedfcbbklhfgcaaDoor
