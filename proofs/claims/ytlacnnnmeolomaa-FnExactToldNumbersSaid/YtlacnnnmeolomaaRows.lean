/-
  No cell of these rows narrows 'for every input' (looked for: loops, veiled, ifaces, maps, wideKeys, modest, calm, conditions, laid).
  DERIVED. THE GIVEN ROWS OF THIS SEAT. 11 by the template 'for every input the law returns true; each argument reads behind the call as it read before'; 0 by the template 'total and deterministic' (their statements: YtlacnnnmeolomaaTotals.lean).
  GIVEN WITH THE SEED: the statements are not yours to turn. If you find one false, say at which input.
  Laid BY PROGRAM, IN A SANDBOX (cutbox-rows.mjs): the forced cells as the released guide's own fill.sh prints them over the translation cd5e0e710359c355… (all of the seat's roots in one cut). By AI agents, Wed Nov 11 2026. No macro, syntax, notation, axiom, sorry.
-/
import Derived.Test.YtlacnnnmeolomaaChecked
import GoSem.Claim
import GoSem.ClaimJoined
import GoSem.ClaimMapViews
import Derived.JoinedTies
import Derived.KernelRfl
namespace Go.Proofs.Ytlacnnnmeolomaa
/- THE CELL 'sum', in the pinned program and in every row, IS THE sha256 OF THE DUMP (.gsa) THAT YtlacnnnmeolomaaProg.lean LOADS. Nothing in Lean hashes anything: it is a label: what it is worth is what the hold of that sum in a sandbox is worth. -/
noncomputable def Try.pinned : Pinned := { name := "ytlacnnnmeolomaa", sum := "cd5e0e710359c355647fc574cb51b3ab0303e9075a8c4eceb8f63a806499859b", checked := Try.checked }
namespace Rows
def none {H : Type} : Left H := { results := [], args := [] }

/-- 'laws.FnExactCouplesParty': WHATEVER THE INPUT: true; the input reads as it did. -/
def fnExactCouplesPartySpec : ChangeSpec := { name := "fnExactCouplesParty", fn := fun _ => fun
  | [d] => { results := [.lit (.bool true)], args := [d] }
  | _ => none }
def fnExactCouplesPartyRow : OpenClaim := { program := "ytlacnnnmeolomaa", sum := "cd5e0e710359c355647fc574cb51b3ab0303e9075a8c4eceb8f63a806499859b", func := "loop.example/g01257/laws.FnExactCouplesParty", spec := "fnExactCouplesParty", apart := false }
def FnExactCouplesPartySaid : Prop := fnExactCouplesPartyRow.holds Try.pinned (OpenSpec.ofChange fnExactCouplesPartySpec)

/-- ITS FALSE NEIGHBOUR: 'it returns false'. Refute it at one input. -/
def fnExactCouplesPartyWrong : ChangeSpec := { name := "fnExactCouplesParty", fn := fun _ => fun
  | [d] => { results := [.lit (.bool false)], args := [d] }
  | _ => none }
def FnExactCouplesPartyWrongFalsely : Prop := fnExactCouplesPartyRow.holds Try.pinned (OpenSpec.ofChange fnExactCouplesPartyWrong)

/-- 'laws.FnExactIsFame': WHATEVER THE INPUT: true; the input reads as it did. -/
def fnExactIsFameSpec : ChangeSpec := { name := "fnExactIsFame", fn := fun _ => fun
  | [d] => { results := [.lit (.bool true)], args := [d] }
  | _ => none }
def fnExactIsFameRow : OpenClaim := { program := "ytlacnnnmeolomaa", sum := "cd5e0e710359c355647fc574cb51b3ab0303e9075a8c4eceb8f63a806499859b", func := "loop.example/g01257/laws.FnExactIsFame", spec := "fnExactIsFame", unfollowed := true, recurses := true, apart := false }
def FnExactIsFameSaid : Prop := fnExactIsFameRow.holds Try.pinned (OpenSpec.ofChange fnExactIsFameSpec)

/-- ITS FALSE NEIGHBOUR: 'it returns false'. Refute it at one input. -/
def fnExactIsFameWrong : ChangeSpec := { name := "fnExactIsFame", fn := fun _ => fun
  | [d] => { results := [.lit (.bool false)], args := [d] }
  | _ => none }
def FnExactIsFameWrongFalsely : Prop := fnExactIsFameRow.holds Try.pinned (OpenSpec.ofChange fnExactIsFameWrong)

/-- 'laws.FnExactToldNumbers': WHATEVER THE INPUT: true; the input reads as it did. -/
def fnExactToldNumbersSpec : ChangeSpec := { name := "fnExactToldNumbers", fn := fun _ => fun
  | [d] => { results := [.lit (.bool true)], args := [d] }
  | _ => none }
def fnExactToldNumbersRow : OpenClaim := { program := "ytlacnnnmeolomaa", sum := "cd5e0e710359c355647fc574cb51b3ab0303e9075a8c4eceb8f63a806499859b", func := "loop.example/g01257/laws.FnExactToldNumbers", spec := "fnExactToldNumbers", unfollowed := true, recurses := true, apart := false }
def FnExactToldNumbersSaid : Prop := fnExactToldNumbersRow.holds Try.pinned (OpenSpec.ofChange fnExactToldNumbersSpec)

/-- ITS FALSE NEIGHBOUR: 'it returns false'. Refute it at one input. -/
def fnExactToldNumbersWrong : ChangeSpec := { name := "fnExactToldNumbers", fn := fun _ => fun
  | [d] => { results := [.lit (.bool false)], args := [d] }
  | _ => none }
def FnExactToldNumbersWrongFalsely : Prop := fnExactToldNumbersRow.holds Try.pinned (OpenSpec.ofChange fnExactToldNumbersWrong)

/-- 'laws.FnExactAllKnowAll': WHATEVER THE INPUT: true; the input reads as it did. -/
def fnExactAllKnowAllSpec : ChangeSpec := { name := "fnExactAllKnowAll", fn := fun _ => fun
  | [d1, d2] => { results := [.lit (.bool true)], args := [d1, d2] }
  | _ => none }
def fnExactAllKnowAllRow : OpenClaim := { program := "ytlacnnnmeolomaa", sum := "cd5e0e710359c355647fc574cb51b3ab0303e9075a8c4eceb8f63a806499859b", func := "loop.example/g01257/laws.FnExactAllKnowAll", spec := "fnExactAllKnowAll", unfollowed := true, recurses := true, apart := false }
def FnExactAllKnowAllSaid : Prop := fnExactAllKnowAllRow.holds Try.pinned (OpenSpec.ofChange fnExactAllKnowAllSpec)

/-- ITS FALSE NEIGHBOUR: 'it returns false'. Refute it at one input. -/
def fnExactAllKnowAllWrong : ChangeSpec := { name := "fnExactAllKnowAll", fn := fun _ => fun
  | [d1, d2] => { results := [.lit (.bool false)], args := [d1, d2] }
  | _ => none }
def FnExactAllKnowAllWrongFalsely : Prop := fnExactAllKnowAllRow.holds Try.pinned (OpenSpec.ofChange fnExactAllKnowAllWrong)

/-- 'laws.FnExactFirstHeard': WHATEVER THE INPUT: true; the input reads as it did. -/
def fnExactFirstHeardSpec : ChangeSpec := { name := "fnExactFirstHeard", fn := fun _ => fun
  | [d1, d2, d3, d4] => { results := [.lit (.bool true)], args := [d1, d2, d3, d4] }
  | _ => none }
def fnExactFirstHeardRow : OpenClaim := { program := "ytlacnnnmeolomaa", sum := "cd5e0e710359c355647fc574cb51b3ab0303e9075a8c4eceb8f63a806499859b", func := "loop.example/g01257/laws.FnExactFirstHeard", spec := "fnExactFirstHeard", unfollowed := true, recurses := true, apart := false }
def FnExactFirstHeardSaid : Prop := fnExactFirstHeardRow.holds Try.pinned (OpenSpec.ofChange fnExactFirstHeardSpec)

/-- ITS FALSE NEIGHBOUR: 'it returns false'. Refute it at one input. -/
def fnExactFirstHeardWrong : ChangeSpec := { name := "fnExactFirstHeard", fn := fun _ => fun
  | [d1, d2, d3, d4] => { results := [.lit (.bool false)], args := [d1, d2, d3, d4] }
  | _ => none }
def FnExactFirstHeardWrongFalsely : Prop := fnExactFirstHeardRow.holds Try.pinned (OpenSpec.ofChange fnExactFirstHeardWrong)

/-- 'laws.FnExactStarOf': WHATEVER THE INPUT: true; the input reads as it did. -/
def fnExactStarOfSpec : ChangeSpec := { name := "fnExactStarOf", fn := fun _ => fun
  | [d] => { results := [.lit (.bool true)], args := [d] }
  | _ => none }
def fnExactStarOfRow : OpenClaim := { program := "ytlacnnnmeolomaa", sum := "cd5e0e710359c355647fc574cb51b3ab0303e9075a8c4eceb8f63a806499859b", func := "loop.example/g01257/laws.FnExactStarOf", spec := "fnExactStarOf", unfollowed := true, recurses := true, apart := false }
def FnExactStarOfSaid : Prop := fnExactStarOfRow.holds Try.pinned (OpenSpec.ofChange fnExactStarOfSpec)

/-- ITS FALSE NEIGHBOUR: 'it returns false'. Refute it at one input. -/
def fnExactStarOfWrong : ChangeSpec := { name := "fnExactStarOf", fn := fun _ => fun
  | [d] => { results := [.lit (.bool false)], args := [d] }
  | _ => none }
def FnExactStarOfWrongFalsely : Prop := fnExactStarOfRow.holds Try.pinned (OpenSpec.ofChange fnExactStarOfWrong)

/-- 'laws.FnExactExchangeColours': WHATEVER THE INPUT: true; the input reads as it did. -/
def fnExactExchangeColoursSpec : ChangeSpec := { name := "fnExactExchangeColours", fn := fun _ => fun
  | [d1, d2, d3] => { results := [.lit (.bool true)], args := [d1, d2, d3] }
  | _ => none }
def fnExactExchangeColoursRow : OpenClaim := { program := "ytlacnnnmeolomaa", sum := "cd5e0e710359c355647fc574cb51b3ab0303e9075a8c4eceb8f63a806499859b", func := "loop.example/g01257/laws.FnExactExchangeColours", spec := "fnExactExchangeColours", unfollowed := true, recurses := true, apart := false }
def FnExactExchangeColoursSaid : Prop := fnExactExchangeColoursRow.holds Try.pinned (OpenSpec.ofChange fnExactExchangeColoursSpec)

/-- ITS FALSE NEIGHBOUR: 'it returns false'. Refute it at one input. -/
def fnExactExchangeColoursWrong : ChangeSpec := { name := "fnExactExchangeColours", fn := fun _ => fun
  | [d1, d2, d3] => { results := [.lit (.bool false)], args := [d1, d2, d3] }
  | _ => none }
def FnExactExchangeColoursWrongFalsely : Prop := fnExactExchangeColoursRow.holds Try.pinned (OpenSpec.ofChange fnExactExchangeColoursWrong)

/-- 'laws.FnExactPaintPair': WHATEVER THE INPUT: true; the input reads as it did. -/
def fnExactPaintPairSpec : ChangeSpec := { name := "fnExactPaintPair", fn := fun _ => fun
  | [d1, d2, d3, d4] => { results := [.lit (.bool true)], args := [d1, d2, d3, d4] }
  | _ => none }
def fnExactPaintPairRow : OpenClaim := { program := "ytlacnnnmeolomaa", sum := "cd5e0e710359c355647fc574cb51b3ab0303e9075a8c4eceb8f63a806499859b", func := "loop.example/g01257/laws.FnExactPaintPair", spec := "fnExactPaintPair", unfollowed := true, recurses := true, apart := false }
def FnExactPaintPairSaid : Prop := fnExactPaintPairRow.holds Try.pinned (OpenSpec.ofChange fnExactPaintPairSpec)

/-- ITS FALSE NEIGHBOUR: 'it returns false'. Refute it at one input. -/
def fnExactPaintPairWrong : ChangeSpec := { name := "fnExactPaintPair", fn := fun _ => fun
  | [d1, d2, d3, d4] => { results := [.lit (.bool false)], args := [d1, d2, d3, d4] }
  | _ => none }
def FnExactPaintPairWrongFalsely : Prop := fnExactPaintPairRow.holds Try.pinned (OpenSpec.ofChange fnExactPaintPairWrong)

/-- 'laws.FnExactIsWindmill': WHATEVER THE INPUT: true; the input reads as it did. -/
def fnExactIsWindmillSpec : ChangeSpec := { name := "fnExactIsWindmill", fn := fun _ => fun
  | [d] => { results := [.lit (.bool true)], args := [d] }
  | _ => none }
def fnExactIsWindmillRow : OpenClaim := { program := "ytlacnnnmeolomaa", sum := "cd5e0e710359c355647fc574cb51b3ab0303e9075a8c4eceb8f63a806499859b", func := "loop.example/g01257/laws.FnExactIsWindmill", spec := "fnExactIsWindmill", apart := false }
def FnExactIsWindmillSaid : Prop := fnExactIsWindmillRow.holds Try.pinned (OpenSpec.ofChange fnExactIsWindmillSpec)

/-- ITS FALSE NEIGHBOUR: 'it returns false'. Refute it at one input. -/
def fnExactIsWindmillWrong : ChangeSpec := { name := "fnExactIsWindmill", fn := fun _ => fun
  | [d] => { results := [.lit (.bool false)], args := [d] }
  | _ => none }
def FnExactIsWindmillWrongFalsely : Prop := fnExactIsWindmillRow.holds Try.pinned (OpenSpec.ofChange fnExactIsWindmillWrong)

/-- 'laws.FnExactEnoughFriends': WHATEVER THE INPUT: true; the input reads as it did. -/
def fnExactEnoughFriendsSpec : ChangeSpec := { name := "fnExactEnoughFriends", fn := fun _ => fun
  | [d] => { results := [.lit (.bool true)], args := [d] }
  | _ => none }
def fnExactEnoughFriendsRow : OpenClaim := { program := "ytlacnnnmeolomaa", sum := "cd5e0e710359c355647fc574cb51b3ab0303e9075a8c4eceb8f63a806499859b", func := "loop.example/g01257/laws.FnExactEnoughFriends", spec := "fnExactEnoughFriends", apart := false }
def FnExactEnoughFriendsSaid : Prop := fnExactEnoughFriendsRow.holds Try.pinned (OpenSpec.ofChange fnExactEnoughFriendsSpec)

/-- ITS FALSE NEIGHBOUR: 'it returns false'. Refute it at one input. -/
def fnExactEnoughFriendsWrong : ChangeSpec := { name := "fnExactEnoughFriends", fn := fun _ => fun
  | [d] => { results := [.lit (.bool false)], args := [d] }
  | _ => none }
def FnExactEnoughFriendsWrongFalsely : Prop := fnExactEnoughFriendsRow.holds Try.pinned (OpenSpec.ofChange fnExactEnoughFriendsWrong)

/-- 'laws.FnExactFirstAvoiding': WHATEVER THE INPUT: true; the input reads as it did. -/
def fnExactFirstAvoidingSpec : ChangeSpec := { name := "fnExactFirstAvoiding", fn := fun _ => fun
  | [d1, d2] => { results := [.lit (.bool true)], args := [d1, d2] }
  | _ => none }
def fnExactFirstAvoidingRow : OpenClaim := { program := "ytlacnnnmeolomaa", sum := "cd5e0e710359c355647fc574cb51b3ab0303e9075a8c4eceb8f63a806499859b", func := "loop.example/g01257/laws.FnExactFirstAvoiding", spec := "fnExactFirstAvoiding", unfollowed := true, recurses := true, apart := false }
def FnExactFirstAvoidingSaid : Prop := fnExactFirstAvoidingRow.holds Try.pinned (OpenSpec.ofChange fnExactFirstAvoidingSpec)

/-- ITS FALSE NEIGHBOUR: 'it returns false'. Refute it at one input. -/
def fnExactFirstAvoidingWrong : ChangeSpec := { name := "fnExactFirstAvoiding", fn := fun _ => fun
  | [d1, d2] => { results := [.lit (.bool false)], args := [d1, d2] }
  | _ => none }
def FnExactFirstAvoidingWrongFalsely : Prop := fnExactFirstAvoidingRow.holds Try.pinned (OpenSpec.ofChange fnExactFirstAvoidingWrong)

/- THE SECOND FORM. 'bulk': how many values and letters a reading holds, each counted each time it is reached (what is shared counts as often as it is met; a slice's spare places count too). A statement '..UptoSaid' is the law's where the arguments, and the package variables that the reading takes, are together of bulk at most 1048576: NARROWER than '..Said'. Prove '..Said' where nothing that the law and all that it calls make is longer than what came in: it says more and counts as full. Else prove '..UptoSaid'. A law counts once. -/
mutual
def uptoBulk {H : Type} : DataW H → Nat
  | .lit (.string bytes) => bytes.length + 1
  | .lit _ => 1
  | .nil => 1
  | .ptr d => uptoBulk d + 1
  | .slice elems spare => uptoBulkAll elems + uptoBulkAll spare + 1
  | .agg parts => uptoBulkAll parts + 1
  | .iface _ d => uptoBulk d + 1
  | .map entries => uptoBulkEntries entries + 1
  | .held _ => 1
def uptoBulkAll {H : Type} : List (DataW H) → Nat
  | [] => 0
  | d :: r => uptoBulk d + uptoBulkAll r
def uptoBulkEntries {H : Type} : List (Lit × DataW H) → Nat
  | [] => 0
  | x :: r => uptoBulkEntry x + uptoBulkEntries r
def uptoBulkEntry {H : Type} : Lit × DataW H → Nat
  | (.string bytes, d) => bytes.length + uptoBulk d + 1
  | (_, d) => uptoBulk d + 1
 end
def uptoSmall : (H : Type) → List (DataW H) → Bool := fun _ ds => decide (uptoBulkAll ds ≤ 1048576)
def OpenSpec.upto (s : _root_.Go.ChangeSpec) : _root_.Go.OpenSpec := { _root_.Go.OpenSpec.ofChange s with cond := some uptoSmall }

/-- 'laws.FnExactCouplesParty', WHERE WHAT IT READS IS OF BULK AT MOST 1048576: true; the input reads as it did. -/
def fnExactCouplesPartyUptoRow : OpenClaim := { program := "ytlacnnnmeolomaa", sum := "cd5e0e710359c355647fc574cb51b3ab0303e9075a8c4eceb8f63a806499859b", func := "loop.example/g01257/laws.FnExactCouplesParty", spec := "fnExactCouplesParty", apart := false, narrowed := true }
def FnExactCouplesPartyUptoSaid : Prop := fnExactCouplesPartyUptoRow.holds Try.pinned (OpenSpec.upto fnExactCouplesPartySpec)

/-- 'laws.FnExactIsFame', WHERE WHAT IT READS IS OF BULK AT MOST 1048576: true; the input reads as it did. -/
def fnExactIsFameUptoRow : OpenClaim := { program := "ytlacnnnmeolomaa", sum := "cd5e0e710359c355647fc574cb51b3ab0303e9075a8c4eceb8f63a806499859b", func := "loop.example/g01257/laws.FnExactIsFame", spec := "fnExactIsFame", unfollowed := true, recurses := true, apart := false, narrowed := true }
def FnExactIsFameUptoSaid : Prop := fnExactIsFameUptoRow.holds Try.pinned (OpenSpec.upto fnExactIsFameSpec)

/-- 'laws.FnExactToldNumbers', WHERE WHAT IT READS IS OF BULK AT MOST 1048576: true; the input reads as it did. -/
def fnExactToldNumbersUptoRow : OpenClaim := { program := "ytlacnnnmeolomaa", sum := "cd5e0e710359c355647fc574cb51b3ab0303e9075a8c4eceb8f63a806499859b", func := "loop.example/g01257/laws.FnExactToldNumbers", spec := "fnExactToldNumbers", unfollowed := true, recurses := true, apart := false, narrowed := true }
def FnExactToldNumbersUptoSaid : Prop := fnExactToldNumbersUptoRow.holds Try.pinned (OpenSpec.upto fnExactToldNumbersSpec)

/-- 'laws.FnExactAllKnowAll', WHERE WHAT IT READS IS OF BULK AT MOST 1048576: true; the input reads as it did. -/
def fnExactAllKnowAllUptoRow : OpenClaim := { program := "ytlacnnnmeolomaa", sum := "cd5e0e710359c355647fc574cb51b3ab0303e9075a8c4eceb8f63a806499859b", func := "loop.example/g01257/laws.FnExactAllKnowAll", spec := "fnExactAllKnowAll", unfollowed := true, recurses := true, apart := false, narrowed := true }
def FnExactAllKnowAllUptoSaid : Prop := fnExactAllKnowAllUptoRow.holds Try.pinned (OpenSpec.upto fnExactAllKnowAllSpec)

/-- 'laws.FnExactFirstHeard', WHERE WHAT IT READS IS OF BULK AT MOST 1048576: true; the input reads as it did. -/
def fnExactFirstHeardUptoRow : OpenClaim := { program := "ytlacnnnmeolomaa", sum := "cd5e0e710359c355647fc574cb51b3ab0303e9075a8c4eceb8f63a806499859b", func := "loop.example/g01257/laws.FnExactFirstHeard", spec := "fnExactFirstHeard", unfollowed := true, recurses := true, apart := false, narrowed := true }
def FnExactFirstHeardUptoSaid : Prop := fnExactFirstHeardUptoRow.holds Try.pinned (OpenSpec.upto fnExactFirstHeardSpec)

/-- 'laws.FnExactStarOf', WHERE WHAT IT READS IS OF BULK AT MOST 1048576: true; the input reads as it did. -/
def fnExactStarOfUptoRow : OpenClaim := { program := "ytlacnnnmeolomaa", sum := "cd5e0e710359c355647fc574cb51b3ab0303e9075a8c4eceb8f63a806499859b", func := "loop.example/g01257/laws.FnExactStarOf", spec := "fnExactStarOf", unfollowed := true, recurses := true, apart := false, narrowed := true }
def FnExactStarOfUptoSaid : Prop := fnExactStarOfUptoRow.holds Try.pinned (OpenSpec.upto fnExactStarOfSpec)

/-- 'laws.FnExactExchangeColours', WHERE WHAT IT READS IS OF BULK AT MOST 1048576: true; the input reads as it did. -/
def fnExactExchangeColoursUptoRow : OpenClaim := { program := "ytlacnnnmeolomaa", sum := "cd5e0e710359c355647fc574cb51b3ab0303e9075a8c4eceb8f63a806499859b", func := "loop.example/g01257/laws.FnExactExchangeColours", spec := "fnExactExchangeColours", unfollowed := true, recurses := true, apart := false, narrowed := true }
def FnExactExchangeColoursUptoSaid : Prop := fnExactExchangeColoursUptoRow.holds Try.pinned (OpenSpec.upto fnExactExchangeColoursSpec)

/-- 'laws.FnExactPaintPair', WHERE WHAT IT READS IS OF BULK AT MOST 1048576: true; the input reads as it did. -/
def fnExactPaintPairUptoRow : OpenClaim := { program := "ytlacnnnmeolomaa", sum := "cd5e0e710359c355647fc574cb51b3ab0303e9075a8c4eceb8f63a806499859b", func := "loop.example/g01257/laws.FnExactPaintPair", spec := "fnExactPaintPair", unfollowed := true, recurses := true, apart := false, narrowed := true }
def FnExactPaintPairUptoSaid : Prop := fnExactPaintPairUptoRow.holds Try.pinned (OpenSpec.upto fnExactPaintPairSpec)

/-- 'laws.FnExactIsWindmill', WHERE WHAT IT READS IS OF BULK AT MOST 1048576: true; the input reads as it did. -/
def fnExactIsWindmillUptoRow : OpenClaim := { program := "ytlacnnnmeolomaa", sum := "cd5e0e710359c355647fc574cb51b3ab0303e9075a8c4eceb8f63a806499859b", func := "loop.example/g01257/laws.FnExactIsWindmill", spec := "fnExactIsWindmill", apart := false, narrowed := true }
def FnExactIsWindmillUptoSaid : Prop := fnExactIsWindmillUptoRow.holds Try.pinned (OpenSpec.upto fnExactIsWindmillSpec)

/-- 'laws.FnExactEnoughFriends', WHERE WHAT IT READS IS OF BULK AT MOST 1048576: true; the input reads as it did. -/
def fnExactEnoughFriendsUptoRow : OpenClaim := { program := "ytlacnnnmeolomaa", sum := "cd5e0e710359c355647fc574cb51b3ab0303e9075a8c4eceb8f63a806499859b", func := "loop.example/g01257/laws.FnExactEnoughFriends", spec := "fnExactEnoughFriends", apart := false, narrowed := true }
def FnExactEnoughFriendsUptoSaid : Prop := fnExactEnoughFriendsUptoRow.holds Try.pinned (OpenSpec.upto fnExactEnoughFriendsSpec)

/-- 'laws.FnExactFirstAvoiding', WHERE WHAT IT READS IS OF BULK AT MOST 1048576: true; the input reads as it did. -/
def fnExactFirstAvoidingUptoRow : OpenClaim := { program := "ytlacnnnmeolomaa", sum := "cd5e0e710359c355647fc574cb51b3ab0303e9075a8c4eceb8f63a806499859b", func := "loop.example/g01257/laws.FnExactFirstAvoiding", spec := "fnExactFirstAvoiding", unfollowed := true, recurses := true, apart := false, narrowed := true }
def FnExactFirstAvoidingUptoSaid : Prop := fnExactFirstAvoidingUptoRow.holds Try.pinned (OpenSpec.upto fnExactFirstAvoidingSpec)

end Rows
end Go.Proofs.Ytlacnnnmeolomaa
