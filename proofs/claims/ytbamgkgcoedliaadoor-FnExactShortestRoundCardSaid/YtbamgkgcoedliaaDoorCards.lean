/-
  DERIVED. GIVEN WITH THE SEED: THE CARDS: each row of YtbamgkgcoedliaaDoorRows.lean that lists a variable, with what it lists TIED to the program's text (the seventh form; the later family's looks); each row that meets fmt, with fmt's text TOLD by the authors' own Lean function (tested against real Go, not proved from fmt's source: count such statements apart). THE CARD IS WHAT COUNTS. Prove the row's statement (the work); the ties are given (YtbamgkgcoedliaaDoorTie.lean); close each card by the builder's one call (the guide's Derived/Test/ToyasCard.lean, 'card_holds'). Laid BY PROGRAM, IN A SANDBOX (cutbox-door.mjs). By AI agents, Wed Nov 11 2026. No macro, syntax, notation, axiom, sorry.
-/
import Derived.Test.YtbamgkgcoedliaaDoorRows
import GoSem.ClaimSeven
namespace Go.Proofs.YtbamgkgcoedliaaDoor
namespace Rows

/-- THE TIED CARD OF 'laws.FnExactShortestRound'. -/
def fnExactShortestRoundCard : Claim7 := { stood := { row := fnExactShortestRoundRow, standIns := [], harness := (true, "f00cf7bd0495c338f5f10994e94d26551849b859a0449e2dfd55d81d266216ab"), looks := false }, kinds := [], alts := [], laidByText := true, laidKinds := [.data], laidTests := true, laidLooks := .later }
def FnExactShortestRoundCardSaid : Prop := Claim7.holds Tryd.pinned (.plain (OpenSpec.ofChange fnExactShortestRoundSpec)) fnExactShortestRoundCard

/-- THE SECOND FORM's CARD OF 'laws.FnExactShortestRound'. -/
def fnExactShortestRoundUptoCard : Claim7 := { stood := { row := fnExactShortestRoundUptoRow, standIns := [], harness := (true, "f00cf7bd0495c338f5f10994e94d26551849b859a0449e2dfd55d81d266216ab"), looks := false }, kinds := [], alts := [], laidByText := true, laidKinds := [.data], laidTests := true, laidLooks := .later }
def FnExactShortestRoundUptoCardSaid : Prop := Claim7.holds Tryd.pinned (.plain (OpenSpec.upto fnExactShortestRoundSpec)) fnExactShortestRoundUptoCard
end Rows
end Go.Proofs.YtbamgkgcoedliaaDoor
