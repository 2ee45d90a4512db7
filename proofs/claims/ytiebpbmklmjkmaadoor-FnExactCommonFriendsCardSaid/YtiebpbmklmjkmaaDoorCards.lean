/-
  DERIVED. GIVEN WITH THE SEED: THE CARDS: each row of YtiebpbmklmjkmaaDoorRows.lean that lists a variable, with what it lists TIED to the program's text (the seventh form; the later family's looks); each row that meets fmt, with fmt's text TOLD by the authors' own Lean function (tested against real Go, not proved from fmt's source: count such statements apart). THE CARD IS WHAT COUNTS. Prove the row's statement (the work); the ties are given (YtiebpbmklmjkmaaDoorTie.lean); close each card by the builder's one call (the guide's Derived/Test/ToyasCard.lean, 'card_holds'). Laid BY PROGRAM, IN A SANDBOX (cutbox-door.mjs). By AI agents, Wed Nov 11 2026. No macro, syntax, notation, axiom, sorry.
-/
import Derived.Test.YtiebpbmklmjkmaaDoorRows
import GoSem.ClaimSeven
namespace Go.Proofs.YtiebpbmklmjkmaaDoor
namespace Rows

/-- THE TIED CARD OF 'laws.FnExactCommonFriends'. -/
def fnExactCommonFriendsCard : Claim7 := { stood := { row := fnExactCommonFriendsRow, standIns := [], harness := (true, "942bde003aa2479c07f9fb2294f566e18f2d2a169fd31fa004697bf4896f646c"), looks := false }, kinds := [], alts := [], laidByText := true, laidKinds := [.data], laidTests := true, laidLooks := .later }
def FnExactCommonFriendsCardSaid : Prop := Claim7.holds Tryd.pinned (.plain (OpenSpec.ofChange fnExactCommonFriendsSpec)) fnExactCommonFriendsCard

/-- THE SECOND FORM's CARD OF 'laws.FnExactCommonFriends'. -/
def fnExactCommonFriendsUptoCard : Claim7 := { stood := { row := fnExactCommonFriendsUptoRow, standIns := [], harness := (true, "942bde003aa2479c07f9fb2294f566e18f2d2a169fd31fa004697bf4896f646c"), looks := false }, kinds := [], alts := [], laidByText := true, laidKinds := [.data], laidTests := true, laidLooks := .later }
def FnExactCommonFriendsUptoCardSaid : Prop := Claim7.holds Tryd.pinned (.plain (OpenSpec.upto fnExactCommonFriendsSpec)) fnExactCommonFriendsUptoCard
end Rows
end Go.Proofs.YtiebpbmklmjkmaaDoor
