/-
  No cell of these rows narrows 'for every input' (looked for: loops, veiled, ifaces, maps, wideKeys, modest, calm, conditions, laid).
  DERIVED. THE GIVEN ROWS OF THIS SEAT. 12 by the template 'for every input the law returns true; each argument reads behind the call as it read before'; 0 by the template 'total and deterministic' (their statements: YtghefgfacafboaaTotals.lean).
  GIVEN WITH THE SEED: the statements are not yours to turn. If you find one false, say at which input.
  Laid BY PROGRAM, IN A SANDBOX (cutbox-rows.mjs): the forced cells as the released guide's own fill.sh prints them over the translation b6906ec867533777… (all of the seat's roots in one cut). By AI agents, Wed Nov 11 2026. No macro, syntax, notation, axiom, sorry.
-/
import Derived.Test.YtghefgfacafboaaChecked
import GoSem.Claim
import GoSem.ClaimJoined
import GoSem.ClaimMapViews
import Derived.JoinedTies
import Derived.KernelRfl
namespace Go.Proofs.Ytghefgfacafboaa
/- THE CELL 'sum', in the pinned program and in every row, IS THE sha256 OF THE DUMP (.gsa) THAT YtghefgfacafboaaProg.lean LOADS. Nothing in Lean hashes anything: it is a label: what it is worth is what the hold of that sum in a sandbox is worth. -/
noncomputable def Try.pinned : Pinned := { name := "ytghefgfacafboaa", sum := "b6906ec867533777b7d2361ac495fe5cdd46d9ebab8e4e642fca2e35c09604e6", checked := Try.checked }
namespace Rows
def none {H : Type} : Left H := { results := [], args := [] }

/-- 'laws.FnExactMostPeople': WHATEVER THE INPUT: true; the input reads as it did. -/
def fnExactMostPeopleSpec : ChangeSpec := { name := "fnExactMostPeople", fn := fun _ => fun
  | [d1, d2] => { results := [.lit (.bool true)], args := [d1, d2] }
  | _ => none }
def fnExactMostPeopleRow : OpenClaim := { program := "ytghefgfacafboaa", sum := "b6906ec867533777b7d2361ac495fe5cdd46d9ebab8e4e642fca2e35c09604e6", func := "loop.example/g01257/laws.FnExactMostPeople", spec := "fnExactMostPeople", apart := false }
def FnExactMostPeopleSaid : Prop := fnExactMostPeopleRow.holds Try.pinned (OpenSpec.ofChange fnExactMostPeopleSpec)

/-- ITS FALSE NEIGHBOUR: 'it returns false'. Refute it at one input. -/
def fnExactMostPeopleWrong : ChangeSpec := { name := "fnExactMostPeople", fn := fun _ => fun
  | [d1, d2] => { results := [.lit (.bool false)], args := [d1, d2] }
  | _ => none }
def FnExactMostPeopleWrongFalsely : Prop := fnExactMostPeopleRow.holds Try.pinned (OpenSpec.ofChange fnExactMostPeopleWrong)

/-- 'laws.FnExactLeastThrees': WHATEVER THE INPUT: true; the input reads as it did. -/
def fnExactLeastThreesSpec : ChangeSpec := { name := "fnExactLeastThrees", fn := fun _ => fun
  | [d] => { results := [.lit (.bool true)], args := [d] }
  | _ => none }
def fnExactLeastThreesRow : OpenClaim := { program := "ytghefgfacafboaa", sum := "b6906ec867533777b7d2361ac495fe5cdd46d9ebab8e4e642fca2e35c09604e6", func := "loop.example/g01257/laws.FnExactLeastThrees", spec := "fnExactLeastThrees", apart := false }
def FnExactLeastThreesSaid : Prop := fnExactLeastThreesRow.holds Try.pinned (OpenSpec.ofChange fnExactLeastThreesSpec)

/-- ITS FALSE NEIGHBOUR: 'it returns false'. Refute it at one input. -/
def fnExactLeastThreesWrong : ChangeSpec := { name := "fnExactLeastThrees", fn := fun _ => fun
  | [d] => { results := [.lit (.bool false)], args := [d] }
  | _ => none }
def FnExactLeastThreesWrongFalsely : Prop := fnExactLeastThreesRow.holds Try.pinned (OpenSpec.ofChange fnExactLeastThreesWrong)

/-- 'laws.FnExactFewestCalls': WHATEVER THE INPUT: true; the input reads as it did. -/
def fnExactFewestCallsSpec : ChangeSpec := { name := "fnExactFewestCalls", fn := fun _ => fun
  | [d] => { results := [.lit (.bool true)], args := [d] }
  | _ => none }
def fnExactFewestCallsRow : OpenClaim := { program := "ytghefgfacafboaa", sum := "b6906ec867533777b7d2361ac495fe5cdd46d9ebab8e4e642fca2e35c09604e6", func := "loop.example/g01257/laws.FnExactFewestCalls", spec := "fnExactFewestCalls", apart := false }
def FnExactFewestCallsSaid : Prop := fnExactFewestCallsRow.holds Try.pinned (OpenSpec.ofChange fnExactFewestCallsSpec)

/-- ITS FALSE NEIGHBOUR: 'it returns false'. Refute it at one input. -/
def fnExactFewestCallsWrong : ChangeSpec := { name := "fnExactFewestCalls", fn := fun _ => fun
  | [d] => { results := [.lit (.bool false)], args := [d] }
  | _ => none }
def FnExactFewestCallsWrongFalsely : Prop := fnExactFewestCallsRow.holds Try.pinned (OpenSpec.ofChange fnExactFewestCallsWrong)

/-- 'laws.FnExactRoundsForAll': WHATEVER THE INPUT: true; the input reads as it did. -/
def fnExactRoundsForAllSpec : ChangeSpec := { name := "fnExactRoundsForAll", fn := fun _ => fun
  | [d] => { results := [.lit (.bool true)], args := [d] }
  | _ => none }
def fnExactRoundsForAllRow : OpenClaim := { program := "ytghefgfacafboaa", sum := "b6906ec867533777b7d2361ac495fe5cdd46d9ebab8e4e642fca2e35c09604e6", func := "loop.example/g01257/laws.FnExactRoundsForAll", spec := "fnExactRoundsForAll", apart := false }
def FnExactRoundsForAllSaid : Prop := fnExactRoundsForAllRow.holds Try.pinned (OpenSpec.ofChange fnExactRoundsForAllSpec)

/-- ITS FALSE NEIGHBOUR: 'it returns false'. Refute it at one input. -/
def fnExactRoundsForAllWrong : ChangeSpec := { name := "fnExactRoundsForAll", fn := fun _ => fun
  | [d] => { results := [.lit (.bool false)], args := [d] }
  | _ => none }
def FnExactRoundsForAllWrongFalsely : Prop := fnExactRoundsForAllRow.holds Try.pinned (OpenSpec.ofChange fnExactRoundsForAllWrong)

/-- 'laws.FnExactAreCalls': WHATEVER THE INPUT: true; the input reads as it did. -/
def fnExactAreCallsSpec : ChangeSpec := { name := "fnExactAreCalls", fn := fun _ => fun
  | [d1, d2] => { results := [.lit (.bool true)], args := [d1, d2] }
  | _ => none }
def fnExactAreCallsRow : OpenClaim := { program := "ytghefgfacafboaa", sum := "b6906ec867533777b7d2361ac495fe5cdd46d9ebab8e4e642fca2e35c09604e6", func := "loop.example/g01257/laws.FnExactAreCalls", spec := "fnExactAreCalls", unfollowed := true, recurses := true, apart := false }
def FnExactAreCallsSaid : Prop := fnExactAreCallsRow.holds Try.pinned (OpenSpec.ofChange fnExactAreCallsSpec)

/-- ITS FALSE NEIGHBOUR: 'it returns false'. Refute it at one input. -/
def fnExactAreCallsWrong : ChangeSpec := { name := "fnExactAreCalls", fn := fun _ => fun
  | [d1, d2] => { results := [.lit (.bool false)], args := [d1, d2] }
  | _ => none }
def FnExactAreCallsWrongFalsely : Prop := fnExactAreCallsRow.holds Try.pinned (OpenSpec.ofChange fnExactAreCallsWrong)

/-- 'laws.FnExactRoundCalls': WHATEVER THE INPUT: true; the input reads as it did. -/
def fnExactRoundCallsSpec : ChangeSpec := { name := "fnExactRoundCalls", fn := fun _ => fun
  | [d] => { results := [.lit (.bool true)], args := [d] }
  | _ => none }
def fnExactRoundCallsRow : OpenClaim := { program := "ytghefgfacafboaa", sum := "b6906ec867533777b7d2361ac495fe5cdd46d9ebab8e4e642fca2e35c09604e6", func := "loop.example/g01257/laws.FnExactRoundCalls", spec := "fnExactRoundCalls", apart := false }
def FnExactRoundCallsSaid : Prop := fnExactRoundCallsRow.holds Try.pinned (OpenSpec.ofChange fnExactRoundCallsSpec)

/-- ITS FALSE NEIGHBOUR: 'it returns false'. Refute it at one input. -/
def fnExactRoundCallsWrong : ChangeSpec := { name := "fnExactRoundCalls", fn := fun _ => fun
  | [d] => { results := [.lit (.bool false)], args := [d] }
  | _ => none }
def FnExactRoundCallsWrongFalsely : Prop := fnExactRoundCallsRow.holds Try.pinned (OpenSpec.ofChange fnExactRoundCallsWrong)

/-- 'laws.FnExactIsPainting': WHATEVER THE INPUT: true; the input reads as it did. -/
def fnExactIsPaintingSpec : ChangeSpec := { name := "fnExactIsPainting", fn := fun _ => fun
  | [d] => { results := [.lit (.bool true)], args := [d] }
  | _ => none }
def fnExactIsPaintingRow : OpenClaim := { program := "ytghefgfacafboaa", sum := "b6906ec867533777b7d2361ac495fe5cdd46d9ebab8e4e642fca2e35c09604e6", func := "loop.example/g01257/laws.FnExactIsPainting", spec := "fnExactIsPainting", unfollowed := true, recurses := true, apart := false }
def FnExactIsPaintingSaid : Prop := fnExactIsPaintingRow.holds Try.pinned (OpenSpec.ofChange fnExactIsPaintingSpec)

/-- ITS FALSE NEIGHBOUR: 'it returns false'. Refute it at one input. -/
def fnExactIsPaintingWrong : ChangeSpec := { name := "fnExactIsPainting", fn := fun _ => fun
  | [d] => { results := [.lit (.bool false)], args := [d] }
  | _ => none }
def FnExactIsPaintingWrongFalsely : Prop := fnExactIsPaintingRow.holds Try.pinned (OpenSpec.ofChange fnExactIsPaintingWrong)

/-- 'laws.FnExactIsSeating': WHATEVER THE INPUT: true; the input reads as it did. -/
def fnExactIsSeatingSpec : ChangeSpec := { name := "fnExactIsSeating", fn := fun _ => fun
  | [d1, d2] => { results := [.lit (.bool true)], args := [d1, d2] }
  | _ => none }
def fnExactIsSeatingRow : OpenClaim := { program := "ytghefgfacafboaa", sum := "b6906ec867533777b7d2361ac495fe5cdd46d9ebab8e4e642fca2e35c09604e6", func := "loop.example/g01257/laws.FnExactIsSeating", spec := "fnExactIsSeating", unfollowed := true, recurses := true, apart := false }
def FnExactIsSeatingSaid : Prop := fnExactIsSeatingRow.holds Try.pinned (OpenSpec.ofChange fnExactIsSeatingSpec)

/-- ITS FALSE NEIGHBOUR: 'it returns false'. Refute it at one input. -/
def fnExactIsSeatingWrong : ChangeSpec := { name := "fnExactIsSeating", fn := fun _ => fun
  | [d1, d2] => { results := [.lit (.bool false)], args := [d1, d2] }
  | _ => none }
def FnExactIsSeatingWrongFalsely : Prop := fnExactIsSeatingRow.holds Try.pinned (OpenSpec.ofChange fnExactIsSeatingWrong)

/-- 'laws.FnExactGossipCalls': WHATEVER THE INPUT: true; the input reads as it did. -/
def fnExactGossipCallsSpec : ChangeSpec := { name := "fnExactGossipCalls", fn := fun _ => fun
  | [d] => { results := [.lit (.bool true)], args := [d] }
  | _ => none }
def fnExactGossipCallsRow : OpenClaim := { program := "ytghefgfacafboaa", sum := "b6906ec867533777b7d2361ac495fe5cdd46d9ebab8e4e642fca2e35c09604e6", func := "loop.example/g01257/laws.FnExactGossipCalls", spec := "fnExactGossipCalls", apart := false }
def FnExactGossipCallsSaid : Prop := fnExactGossipCallsRow.holds Try.pinned (OpenSpec.ofChange fnExactGossipCallsSpec)

/-- ITS FALSE NEIGHBOUR: 'it returns false'. Refute it at one input. -/
def fnExactGossipCallsWrong : ChangeSpec := { name := "fnExactGossipCalls", fn := fun _ => fun
  | [d] => { results := [.lit (.bool false)], args := [d] }
  | _ => none }
def FnExactGossipCallsWrongFalsely : Prop := fnExactGossipCallsRow.holds Try.pinned (OpenSpec.ofChange fnExactGossipCallsWrong)

/-- 'laws.FnExactCountAvoiding': WHATEVER THE INPUT: true; the input reads as it did. -/
def fnExactCountAvoidingSpec : ChangeSpec := { name := "fnExactCountAvoiding", fn := fun _ => fun
  | [d1, d2] => { results := [.lit (.bool true)], args := [d1, d2] }
  | _ => none }
def fnExactCountAvoidingRow : OpenClaim := { program := "ytghefgfacafboaa", sum := "b6906ec867533777b7d2361ac495fe5cdd46d9ebab8e4e642fca2e35c09604e6", func := "loop.example/g01257/laws.FnExactCountAvoiding", spec := "fnExactCountAvoiding", unfollowed := true, recurses := true, apart := false }
def FnExactCountAvoidingSaid : Prop := fnExactCountAvoidingRow.holds Try.pinned (OpenSpec.ofChange fnExactCountAvoidingSpec)

/-- ITS FALSE NEIGHBOUR: 'it returns false'. Refute it at one input. -/
def fnExactCountAvoidingWrong : ChangeSpec := { name := "fnExactCountAvoiding", fn := fun _ => fun
  | [d1, d2] => { results := [.lit (.bool false)], args := [d1, d2] }
  | _ => none }
def FnExactCountAvoidingWrongFalsely : Prop := fnExactCountAvoidingRow.holds Try.pinned (OpenSpec.ofChange fnExactCountAvoidingWrong)

/-- 'laws.FnExactColourOf': WHATEVER THE INPUT: true; the input reads as it did. -/
def fnExactColourOfSpec : ChangeSpec := { name := "fnExactColourOf", fn := fun _ => fun
  | [d1, d2, d3] => { results := [.lit (.bool true)], args := [d1, d2, d3] }
  | _ => none }
def fnExactColourOfRow : OpenClaim := { program := "ytghefgfacafboaa", sum := "b6906ec867533777b7d2361ac495fe5cdd46d9ebab8e4e642fca2e35c09604e6", func := "loop.example/g01257/laws.FnExactColourOf", spec := "fnExactColourOf", unfollowed := true, recurses := true, apart := false }
def FnExactColourOfSaid : Prop := fnExactColourOfRow.holds Try.pinned (OpenSpec.ofChange fnExactColourOfSpec)

/-- ITS FALSE NEIGHBOUR: 'it returns false'. Refute it at one input. -/
def fnExactColourOfWrong : ChangeSpec := { name := "fnExactColourOf", fn := fun _ => fun
  | [d1, d2, d3] => { results := [.lit (.bool false)], args := [d1, d2, d3] }
  | _ => none }
def FnExactColourOfWrongFalsely : Prop := fnExactColourOfRow.holds Try.pinned (OpenSpec.ofChange fnExactColourOfWrong)

/-- 'laws.FnExactWindmillParty': WHATEVER THE INPUT: true; the input reads as it did. -/
def fnExactWindmillPartySpec : ChangeSpec := { name := "fnExactWindmillParty", fn := fun _ => fun
  | [d] => { results := [.lit (.bool true)], args := [d] }
  | _ => none }
def fnExactWindmillPartyRow : OpenClaim := { program := "ytghefgfacafboaa", sum := "b6906ec867533777b7d2361ac495fe5cdd46d9ebab8e4e642fca2e35c09604e6", func := "loop.example/g01257/laws.FnExactWindmillParty", spec := "fnExactWindmillParty", apart := false }
def FnExactWindmillPartySaid : Prop := fnExactWindmillPartyRow.holds Try.pinned (OpenSpec.ofChange fnExactWindmillPartySpec)

/-- ITS FALSE NEIGHBOUR: 'it returns false'. Refute it at one input. -/
def fnExactWindmillPartyWrong : ChangeSpec := { name := "fnExactWindmillParty", fn := fun _ => fun
  | [d] => { results := [.lit (.bool false)], args := [d] }
  | _ => none }
def FnExactWindmillPartyWrongFalsely : Prop := fnExactWindmillPartyRow.holds Try.pinned (OpenSpec.ofChange fnExactWindmillPartyWrong)

/- THE SECOND FORM. 'bulk': how many values and letters a reading holds, each counted each time it is reached (what is shared counts as often as it is met; a slice's spare places count too). A statement '..UptoSaid' is the law's where the arguments, and the package variables that the reading takes, are together of bulk at most 1048576: NARROWER than '..Said'. Prove '..Said' where nothing that the law and all that it calls make is longer than what came in: it says more and counts as full. Else prove '..UptoSaid'. A law counts once. -/
mutual
def uptoBulk {H : Type} : DataW H → Nat
  | .lit (.string bytes) => bytes.length + 1
  | .lit _ => 1
  | .nil => 1
  | .ptr d => uptoBulk d + 1
  | .slice elems spare => uptoBulkAll elems + uptoBulkAll spare + 1
  | .agg parts => uptoBulkAll parts + 1
  | .iface _ d => uptoBulk d + 1
  | .map entries => uptoBulkEntries entries + 1
  | .held _ => 1
def uptoBulkAll {H : Type} : List (DataW H) → Nat
  | [] => 0
  | d :: r => uptoBulk d + uptoBulkAll r
def uptoBulkEntries {H : Type} : List (Lit × DataW H) → Nat
  | [] => 0
  | x :: r => uptoBulkEntry x + uptoBulkEntries r
def uptoBulkEntry {H : Type} : Lit × DataW H → Nat
  | (.string bytes, d) => bytes.length + uptoBulk d + 1
  | (_, d) => uptoBulk d + 1
 end
def uptoSmall : (H : Type) → List (DataW H) → Bool := fun _ ds => decide (uptoBulkAll ds ≤ 1048576)
def OpenSpec.upto (s : _root_.Go.ChangeSpec) : _root_.Go.OpenSpec := { _root_.Go.OpenSpec.ofChange s with cond := some uptoSmall }

/-- 'laws.FnExactMostPeople', WHERE WHAT IT READS IS OF BULK AT MOST 1048576: true; the input reads as it did. -/
def fnExactMostPeopleUptoRow : OpenClaim := { program := "ytghefgfacafboaa", sum := "b6906ec867533777b7d2361ac495fe5cdd46d9ebab8e4e642fca2e35c09604e6", func := "loop.example/g01257/laws.FnExactMostPeople", spec := "fnExactMostPeople", apart := false, narrowed := true }
def FnExactMostPeopleUptoSaid : Prop := fnExactMostPeopleUptoRow.holds Try.pinned (OpenSpec.upto fnExactMostPeopleSpec)

/-- 'laws.FnExactLeastThrees', WHERE WHAT IT READS IS OF BULK AT MOST 1048576: true; the input reads as it did. -/
def fnExactLeastThreesUptoRow : OpenClaim := { program := "ytghefgfacafboaa", sum := "b6906ec867533777b7d2361ac495fe5cdd46d9ebab8e4e642fca2e35c09604e6", func := "loop.example/g01257/laws.FnExactLeastThrees", spec := "fnExactLeastThrees", apart := false, narrowed := true }
def FnExactLeastThreesUptoSaid : Prop := fnExactLeastThreesUptoRow.holds Try.pinned (OpenSpec.upto fnExactLeastThreesSpec)

/-- 'laws.FnExactFewestCalls', WHERE WHAT IT READS IS OF BULK AT MOST 1048576: true; the input reads as it did. -/
def fnExactFewestCallsUptoRow : OpenClaim := { program := "ytghefgfacafboaa", sum := "b6906ec867533777b7d2361ac495fe5cdd46d9ebab8e4e642fca2e35c09604e6", func := "loop.example/g01257/laws.FnExactFewestCalls", spec := "fnExactFewestCalls", apart := false, narrowed := true }
def FnExactFewestCallsUptoSaid : Prop := fnExactFewestCallsUptoRow.holds Try.pinned (OpenSpec.upto fnExactFewestCallsSpec)

/-- 'laws.FnExactRoundsForAll', WHERE WHAT IT READS IS OF BULK AT MOST 1048576: true; the input reads as it did. -/
def fnExactRoundsForAllUptoRow : OpenClaim := { program := "ytghefgfacafboaa", sum := "b6906ec867533777b7d2361ac495fe5cdd46d9ebab8e4e642fca2e35c09604e6", func := "loop.example/g01257/laws.FnExactRoundsForAll", spec := "fnExactRoundsForAll", apart := false, narrowed := true }
def FnExactRoundsForAllUptoSaid : Prop := fnExactRoundsForAllUptoRow.holds Try.pinned (OpenSpec.upto fnExactRoundsForAllSpec)

/-- 'laws.FnExactAreCalls', WHERE WHAT IT READS IS OF BULK AT MOST 1048576: true; the input reads as it did. -/
def fnExactAreCallsUptoRow : OpenClaim := { program := "ytghefgfacafboaa", sum := "b6906ec867533777b7d2361ac495fe5cdd46d9ebab8e4e642fca2e35c09604e6", func := "loop.example/g01257/laws.FnExactAreCalls", spec := "fnExactAreCalls", unfollowed := true, recurses := true, apart := false, narrowed := true }
def FnExactAreCallsUptoSaid : Prop := fnExactAreCallsUptoRow.holds Try.pinned (OpenSpec.upto fnExactAreCallsSpec)

/-- 'laws.FnExactRoundCalls', WHERE WHAT IT READS IS OF BULK AT MOST 1048576: true; the input reads as it did. -/
def fnExactRoundCallsUptoRow : OpenClaim := { program := "ytghefgfacafboaa", sum := "b6906ec867533777b7d2361ac495fe5cdd46d9ebab8e4e642fca2e35c09604e6", func := "loop.example/g01257/laws.FnExactRoundCalls", spec := "fnExactRoundCalls", apart := false, narrowed := true }
def FnExactRoundCallsUptoSaid : Prop := fnExactRoundCallsUptoRow.holds Try.pinned (OpenSpec.upto fnExactRoundCallsSpec)

/-- 'laws.FnExactIsPainting', WHERE WHAT IT READS IS OF BULK AT MOST 1048576: true; the input reads as it did. -/
def fnExactIsPaintingUptoRow : OpenClaim := { program := "ytghefgfacafboaa", sum := "b6906ec867533777b7d2361ac495fe5cdd46d9ebab8e4e642fca2e35c09604e6", func := "loop.example/g01257/laws.FnExactIsPainting", spec := "fnExactIsPainting", unfollowed := true, recurses := true, apart := false, narrowed := true }
def FnExactIsPaintingUptoSaid : Prop := fnExactIsPaintingUptoRow.holds Try.pinned (OpenSpec.upto fnExactIsPaintingSpec)

/-- 'laws.FnExactIsSeating', WHERE WHAT IT READS IS OF BULK AT MOST 1048576: true; the input reads as it did. -/
def fnExactIsSeatingUptoRow : OpenClaim := { program := "ytghefgfacafboaa", sum := "b6906ec867533777b7d2361ac495fe5cdd46d9ebab8e4e642fca2e35c09604e6", func := "loop.example/g01257/laws.FnExactIsSeating", spec := "fnExactIsSeating", unfollowed := true, recurses := true, apart := false, narrowed := true }
def FnExactIsSeatingUptoSaid : Prop := fnExactIsSeatingUptoRow.holds Try.pinned (OpenSpec.upto fnExactIsSeatingSpec)

/-- 'laws.FnExactGossipCalls', WHERE WHAT IT READS IS OF BULK AT MOST 1048576: true; the input reads as it did. -/
def fnExactGossipCallsUptoRow : OpenClaim := { program := "ytghefgfacafboaa", sum := "b6906ec867533777b7d2361ac495fe5cdd46d9ebab8e4e642fca2e35c09604e6", func := "loop.example/g01257/laws.FnExactGossipCalls", spec := "fnExactGossipCalls", apart := false, narrowed := true }
def FnExactGossipCallsUptoSaid : Prop := fnExactGossipCallsUptoRow.holds Try.pinned (OpenSpec.upto fnExactGossipCallsSpec)

/-- 'laws.FnExactCountAvoiding', WHERE WHAT IT READS IS OF BULK AT MOST 1048576: true; the input reads as it did. -/
def fnExactCountAvoidingUptoRow : OpenClaim := { program := "ytghefgfacafboaa", sum := "b6906ec867533777b7d2361ac495fe5cdd46d9ebab8e4e642fca2e35c09604e6", func := "loop.example/g01257/laws.FnExactCountAvoiding", spec := "fnExactCountAvoiding", unfollowed := true, recurses := true, apart := false, narrowed := true }
def FnExactCountAvoidingUptoSaid : Prop := fnExactCountAvoidingUptoRow.holds Try.pinned (OpenSpec.upto fnExactCountAvoidingSpec)

/-- 'laws.FnExactColourOf', WHERE WHAT IT READS IS OF BULK AT MOST 1048576: true; the input reads as it did. -/
def fnExactColourOfUptoRow : OpenClaim := { program := "ytghefgfacafboaa", sum := "b6906ec867533777b7d2361ac495fe5cdd46d9ebab8e4e642fca2e35c09604e6", func := "loop.example/g01257/laws.FnExactColourOf", spec := "fnExactColourOf", unfollowed := true, recurses := true, apart := false, narrowed := true }
def FnExactColourOfUptoSaid : Prop := fnExactColourOfUptoRow.holds Try.pinned (OpenSpec.upto fnExactColourOfSpec)

/-- 'laws.FnExactWindmillParty', WHERE WHAT IT READS IS OF BULK AT MOST 1048576: true; the input reads as it did. -/
def fnExactWindmillPartyUptoRow : OpenClaim := { program := "ytghefgfacafboaa", sum := "b6906ec867533777b7d2361ac495fe5cdd46d9ebab8e4e642fca2e35c09604e6", func := "loop.example/g01257/laws.FnExactWindmillParty", spec := "fnExactWindmillParty", apart := false, narrowed := true }
def FnExactWindmillPartyUptoSaid : Prop := fnExactWindmillPartyUptoRow.holds Try.pinned (OpenSpec.upto fnExactWindmillPartySpec)

end Rows
end Go.Proofs.Ytghefgfacafboaa
