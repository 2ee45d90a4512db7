/-
  No cell of these rows narrows 'for every input' (looked for: loops, veiled, ifaces, maps, wideKeys, modest, calm, conditions, laid).
  DERIVED. THE GIVEN ROWS OF THIS SEAT. 9 by the template 'for every input the law returns true; each argument reads behind the call as it read before'; 0 by the template 'total and deterministic' (their statements: YtcdngkehajifcaaTotals.lean).
  GIVEN WITH THE SEED: the statements are not yours to turn. If you find one false, say at which input.
  Laid BY PROGRAM, IN A SANDBOX (cutbox-rows.mjs): the forced cells as the released guide's own fill.sh prints them over the translation 6f71164a43e2c2a5… (all of the seat's roots in one cut). By AI agents, Wed Nov 11 2026. No macro, syntax, notation, axiom, sorry.
-/
import Derived.Test.YtcdngkehajifcaaChecked
import GoSem.Claim
import GoSem.ClaimJoined
import GoSem.ClaimMapViews
import Derived.JoinedTies
import Derived.KernelRfl
namespace Go.Proofs.Ytcdngkehajifcaa
/- THE CELL 'sum', in the pinned program and in every row, IS THE sha256 OF THE DUMP (.gsa) THAT YtcdngkehajifcaaProg.lean LOADS. Nothing in Lean hashes anything: it is a label: what it is worth is what the hold of that sum in a sandbox is worth. -/
noncomputable def Try.pinned : Pinned := { name := "ytcdngkehajifcaa", sum := "6f71164a43e2c2a5162b798a8c861b9d7953a0c77cb0705a931fcbf6429498ab", checked := Try.checked }
namespace Rows
def none {H : Type} : Left H := { results := [], args := [] }

/-- 'laws.FnExactRenamePainting': WHATEVER THE INPUT: true; the input reads as it did. -/
def fnExactRenamePaintingSpec : ChangeSpec := { name := "fnExactRenamePainting", fn := fun _ => fun
  | [d1, d2] => { results := [.lit (.bool true)], args := [d1, d2] }
  | _ => none }
def fnExactRenamePaintingRow : OpenClaim := { program := "ytcdngkehajifcaa", sum := "6f71164a43e2c2a5162b798a8c861b9d7953a0c77cb0705a931fcbf6429498ab", func := "loop.example/g01257/laws.FnExactRenamePainting", spec := "fnExactRenamePainting", unfollowed := true, recurses := true, apart := false }
def FnExactRenamePaintingSaid : Prop := fnExactRenamePaintingRow.holds Try.pinned (OpenSpec.ofChange fnExactRenamePaintingSpec)

/-- ITS FALSE NEIGHBOUR: 'it returns false'. Refute it at one input. -/
def fnExactRenamePaintingWrong : ChangeSpec := { name := "fnExactRenamePainting", fn := fun _ => fun
  | [d1, d2] => { results := [.lit (.bool false)], args := [d1, d2] }
  | _ => none }
def FnExactRenamePaintingWrongFalsely : Prop := fnExactRenamePaintingRow.holds Try.pinned (OpenSpec.ofChange fnExactRenamePaintingWrong)

/-- 'laws.FnExactExchangeColours': WHATEVER THE INPUT: true; the input reads as it did. -/
def fnExactExchangeColoursSpec : ChangeSpec := { name := "fnExactExchangeColours", fn := fun _ => fun
  | [d1, d2, d3] => { results := [.lit (.bool true)], args := [d1, d2, d3] }
  | _ => none }
def fnExactExchangeColoursRow : OpenClaim := { program := "ytcdngkehajifcaa", sum := "6f71164a43e2c2a5162b798a8c861b9d7953a0c77cb0705a931fcbf6429498ab", func := "loop.example/g01257/laws.FnExactExchangeColours", spec := "fnExactExchangeColours", unfollowed := true, recurses := true, apart := false }
def FnExactExchangeColoursSaid : Prop := fnExactExchangeColoursRow.holds Try.pinned (OpenSpec.ofChange fnExactExchangeColoursSpec)

/-- ITS FALSE NEIGHBOUR: 'it returns false'. Refute it at one input. -/
def fnExactExchangeColoursWrong : ChangeSpec := { name := "fnExactExchangeColours", fn := fun _ => fun
  | [d1, d2, d3] => { results := [.lit (.bool false)], args := [d1, d2, d3] }
  | _ => none }
def FnExactExchangeColoursWrongFalsely : Prop := fnExactExchangeColoursRow.holds Try.pinned (OpenSpec.ofChange fnExactExchangeColoursWrong)

/-- 'laws.FnExactCommonTable': WHATEVER THE INPUT: true; the input reads as it did. -/
def fnExactCommonTableSpec : ChangeSpec := { name := "fnExactCommonTable", fn := fun _ => fun
  | [d] => { results := [.lit (.bool true)], args := [d] }
  | _ => none }
def fnExactCommonTableRow : OpenClaim := { program := "ytcdngkehajifcaa", sum := "6f71164a43e2c2a5162b798a8c861b9d7953a0c77cb0705a931fcbf6429498ab", func := "loop.example/g01257/laws.FnExactCommonTable", spec := "fnExactCommonTable", apart := false }
def FnExactCommonTableSaid : Prop := fnExactCommonTableRow.holds Try.pinned (OpenSpec.ofChange fnExactCommonTableSpec)

/-- ITS FALSE NEIGHBOUR: 'it returns false'. Refute it at one input. -/
def fnExactCommonTableWrong : ChangeSpec := { name := "fnExactCommonTable", fn := fun _ => fun
  | [d] => { results := [.lit (.bool false)], args := [d] }
  | _ => none }
def FnExactCommonTableWrongFalsely : Prop := fnExactCommonTableRow.holds Try.pinned (OpenSpec.ofChange fnExactCommonTableWrong)

/-- 'laws.FnExactFewestCalls': WHATEVER THE INPUT: true; the input reads as it did. -/
def fnExactFewestCallsSpec : ChangeSpec := { name := "fnExactFewestCalls", fn := fun _ => fun
  | [d] => { results := [.lit (.bool true)], args := [d] }
  | _ => none }
def fnExactFewestCallsRow : OpenClaim := { program := "ytcdngkehajifcaa", sum := "6f71164a43e2c2a5162b798a8c861b9d7953a0c77cb0705a931fcbf6429498ab", func := "loop.example/g01257/laws.FnExactFewestCalls", spec := "fnExactFewestCalls", apart := false }
def FnExactFewestCallsSaid : Prop := fnExactFewestCallsRow.holds Try.pinned (OpenSpec.ofChange fnExactFewestCallsSpec)

/-- ITS FALSE NEIGHBOUR: 'it returns false'. Refute it at one input. -/
def fnExactFewestCallsWrong : ChangeSpec := { name := "fnExactFewestCalls", fn := fun _ => fun
  | [d] => { results := [.lit (.bool false)], args := [d] }
  | _ => none }
def FnExactFewestCallsWrongFalsely : Prop := fnExactFewestCallsRow.holds Try.pinned (OpenSpec.ofChange fnExactFewestCallsWrong)

/-- 'laws.FnExactGossipCalls': WHATEVER THE INPUT: true; the input reads as it did. -/
def fnExactGossipCallsSpec : ChangeSpec := { name := "fnExactGossipCalls", fn := fun _ => fun
  | [d] => { results := [.lit (.bool true)], args := [d] }
  | _ => none }
def fnExactGossipCallsRow : OpenClaim := { program := "ytcdngkehajifcaa", sum := "6f71164a43e2c2a5162b798a8c861b9d7953a0c77cb0705a931fcbf6429498ab", func := "loop.example/g01257/laws.FnExactGossipCalls", spec := "fnExactGossipCalls", apart := false }
def FnExactGossipCallsSaid : Prop := fnExactGossipCallsRow.holds Try.pinned (OpenSpec.ofChange fnExactGossipCallsSpec)

/-- ITS FALSE NEIGHBOUR: 'it returns false'. Refute it at one input. -/
def fnExactGossipCallsWrong : ChangeSpec := { name := "fnExactGossipCalls", fn := fun _ => fun
  | [d] => { results := [.lit (.bool false)], args := [d] }
  | _ => none }
def FnExactGossipCallsWrongFalsely : Prop := fnExactGossipCallsRow.holds Try.pinned (OpenSpec.ofChange fnExactGossipCallsWrong)

/-- 'laws.FnExactUselessCalls': WHATEVER THE INPUT: true; the input reads as it did. -/
def fnExactUselessCallsSpec : ChangeSpec := { name := "fnExactUselessCalls", fn := fun _ => fun
  | [d1, d2] => { results := [.lit (.bool true)], args := [d1, d2] }
  | _ => none }
def fnExactUselessCallsRow : OpenClaim := { program := "ytcdngkehajifcaa", sum := "6f71164a43e2c2a5162b798a8c861b9d7953a0c77cb0705a931fcbf6429498ab", func := "loop.example/g01257/laws.FnExactUselessCalls", spec := "fnExactUselessCalls", unfollowed := true, recurses := true, apart := false }
def FnExactUselessCallsSaid : Prop := fnExactUselessCallsRow.holds Try.pinned (OpenSpec.ofChange fnExactUselessCallsSpec)

/-- ITS FALSE NEIGHBOUR: 'it returns false'. Refute it at one input. -/
def fnExactUselessCallsWrong : ChangeSpec := { name := "fnExactUselessCalls", fn := fun _ => fun
  | [d1, d2] => { results := [.lit (.bool false)], args := [d1, d2] }
  | _ => none }
def FnExactUselessCallsWrongFalsely : Prop := fnExactUselessCallsRow.holds Try.pinned (OpenSpec.ofChange fnExactUselessCallsWrong)

/-- 'laws.FnExactFirstHeard': WHATEVER THE INPUT: true; the input reads as it did. -/
def fnExactFirstHeardSpec : ChangeSpec := { name := "fnExactFirstHeard", fn := fun _ => fun
  | [d1, d2, d3, d4] => { results := [.lit (.bool true)], args := [d1, d2, d3, d4] }
  | _ => none }
def fnExactFirstHeardRow : OpenClaim := { program := "ytcdngkehajifcaa", sum := "6f71164a43e2c2a5162b798a8c861b9d7953a0c77cb0705a931fcbf6429498ab", func := "loop.example/g01257/laws.FnExactFirstHeard", spec := "fnExactFirstHeard", unfollowed := true, recurses := true, apart := false }
def FnExactFirstHeardSaid : Prop := fnExactFirstHeardRow.holds Try.pinned (OpenSpec.ofChange fnExactFirstHeardSpec)

/-- ITS FALSE NEIGHBOUR: 'it returns false'. Refute it at one input. -/
def fnExactFirstHeardWrong : ChangeSpec := { name := "fnExactFirstHeard", fn := fun _ => fun
  | [d1, d2, d3, d4] => { results := [.lit (.bool false)], args := [d1, d2, d3, d4] }
  | _ => none }
def FnExactFirstHeardWrongFalsely : Prop := fnExactFirstHeardRow.holds Try.pinned (OpenSpec.ofChange fnExactFirstHeardWrong)

/-- 'laws.FnExactAllKnowAll': WHATEVER THE INPUT: true; the input reads as it did. -/
def fnExactAllKnowAllSpec : ChangeSpec := { name := "fnExactAllKnowAll", fn := fun _ => fun
  | [d1, d2] => { results := [.lit (.bool true)], args := [d1, d2] }
  | _ => none }
def fnExactAllKnowAllRow : OpenClaim := { program := "ytcdngkehajifcaa", sum := "6f71164a43e2c2a5162b798a8c861b9d7953a0c77cb0705a931fcbf6429498ab", func := "loop.example/g01257/laws.FnExactAllKnowAll", spec := "fnExactAllKnowAll", unfollowed := true, recurses := true, apart := false }
def FnExactAllKnowAllSaid : Prop := fnExactAllKnowAllRow.holds Try.pinned (OpenSpec.ofChange fnExactAllKnowAllSpec)

/-- ITS FALSE NEIGHBOUR: 'it returns false'. Refute it at one input. -/
def fnExactAllKnowAllWrong : ChangeSpec := { name := "fnExactAllKnowAll", fn := fun _ => fun
  | [d1, d2] => { results := [.lit (.bool false)], args := [d1, d2] }
  | _ => none }
def FnExactAllKnowAllWrongFalsely : Prop := fnExactAllKnowAllRow.holds Try.pinned (OpenSpec.ofChange fnExactAllKnowAllWrong)

/-- 'laws.FnExactMakeStar': WHATEVER THE INPUT: true; the input reads as it did. -/
def fnExactMakeStarSpec : ChangeSpec := { name := "fnExactMakeStar", fn := fun _ => fun
  | [d1, d2] => { results := [.lit (.bool true)], args := [d1, d2] }
  | _ => none }
def fnExactMakeStarRow : OpenClaim := { program := "ytcdngkehajifcaa", sum := "6f71164a43e2c2a5162b798a8c861b9d7953a0c77cb0705a931fcbf6429498ab", func := "loop.example/g01257/laws.FnExactMakeStar", spec := "fnExactMakeStar", recurses := true, apart := false }
def FnExactMakeStarSaid : Prop := fnExactMakeStarRow.holds Try.pinned (OpenSpec.ofChange fnExactMakeStarSpec)

/-- ITS FALSE NEIGHBOUR: 'it returns false'. Refute it at one input. -/
def fnExactMakeStarWrong : ChangeSpec := { name := "fnExactMakeStar", fn := fun _ => fun
  | [d1, d2] => { results := [.lit (.bool false)], args := [d1, d2] }
  | _ => none }
def FnExactMakeStarWrongFalsely : Prop := fnExactMakeStarRow.holds Try.pinned (OpenSpec.ofChange fnExactMakeStarWrong)

/- THE SECOND FORM. 'bulk': how many values and letters a reading holds, each counted each time it is reached (what is shared counts as often as it is met; a slice's spare places count too). A statement '..UptoSaid' is the law's where the arguments, and the package variables that the reading takes, are together of bulk at most 1048576: NARROWER than '..Said'. Prove '..Said' where nothing that the law and all that it calls make is longer than what came in: it says more and counts as full. Else prove '..UptoSaid'. A law counts once. -/
mutual
def uptoBulk {H : Type} : DataW H → Nat
  | .lit (.string bytes) => bytes.length + 1
  | .lit _ => 1
  | .nil => 1
  | .ptr d => uptoBulk d + 1
  | .slice elems spare => uptoBulkAll elems + uptoBulkAll spare + 1
  | .agg parts => uptoBulkAll parts + 1
  | .iface _ d => uptoBulk d + 1
  | .map entries => uptoBulkEntries entries + 1
  | .held _ => 1
def uptoBulkAll {H : Type} : List (DataW H) → Nat
  | [] => 0
  | d :: r => uptoBulk d + uptoBulkAll r
def uptoBulkEntries {H : Type} : List (Lit × DataW H) → Nat
  | [] => 0
  | x :: r => uptoBulkEntry x + uptoBulkEntries r
def uptoBulkEntry {H : Type} : Lit × DataW H → Nat
  | (.string bytes, d) => bytes.length + uptoBulk d + 1
  | (_, d) => uptoBulk d + 1
 end
def uptoSmall : (H : Type) → List (DataW H) → Bool := fun _ ds => decide (uptoBulkAll ds ≤ 1048576)
def OpenSpec.upto (s : _root_.Go.ChangeSpec) : _root_.Go.OpenSpec := { _root_.Go.OpenSpec.ofChange s with cond := some uptoSmall }

/-- 'laws.FnExactRenamePainting', WHERE WHAT IT READS IS OF BULK AT MOST 1048576: true; the input reads as it did. -/
def fnExactRenamePaintingUptoRow : OpenClaim := { program := "ytcdngkehajifcaa", sum := "6f71164a43e2c2a5162b798a8c861b9d7953a0c77cb0705a931fcbf6429498ab", func := "loop.example/g01257/laws.FnExactRenamePainting", spec := "fnExactRenamePainting", unfollowed := true, recurses := true, apart := false, narrowed := true }
def FnExactRenamePaintingUptoSaid : Prop := fnExactRenamePaintingUptoRow.holds Try.pinned (OpenSpec.upto fnExactRenamePaintingSpec)

/-- 'laws.FnExactExchangeColours', WHERE WHAT IT READS IS OF BULK AT MOST 1048576: true; the input reads as it did. -/
def fnExactExchangeColoursUptoRow : OpenClaim := { program := "ytcdngkehajifcaa", sum := "6f71164a43e2c2a5162b798a8c861b9d7953a0c77cb0705a931fcbf6429498ab", func := "loop.example/g01257/laws.FnExactExchangeColours", spec := "fnExactExchangeColours", unfollowed := true, recurses := true, apart := false, narrowed := true }
def FnExactExchangeColoursUptoSaid : Prop := fnExactExchangeColoursUptoRow.holds Try.pinned (OpenSpec.upto fnExactExchangeColoursSpec)

/-- 'laws.FnExactCommonTable', WHERE WHAT IT READS IS OF BULK AT MOST 1048576: true; the input reads as it did. -/
def fnExactCommonTableUptoRow : OpenClaim := { program := "ytcdngkehajifcaa", sum := "6f71164a43e2c2a5162b798a8c861b9d7953a0c77cb0705a931fcbf6429498ab", func := "loop.example/g01257/laws.FnExactCommonTable", spec := "fnExactCommonTable", apart := false, narrowed := true }
def FnExactCommonTableUptoSaid : Prop := fnExactCommonTableUptoRow.holds Try.pinned (OpenSpec.upto fnExactCommonTableSpec)

/-- 'laws.FnExactFewestCalls', WHERE WHAT IT READS IS OF BULK AT MOST 1048576: true; the input reads as it did. -/
def fnExactFewestCallsUptoRow : OpenClaim := { program := "ytcdngkehajifcaa", sum := "6f71164a43e2c2a5162b798a8c861b9d7953a0c77cb0705a931fcbf6429498ab", func := "loop.example/g01257/laws.FnExactFewestCalls", spec := "fnExactFewestCalls", apart := false, narrowed := true }
def FnExactFewestCallsUptoSaid : Prop := fnExactFewestCallsUptoRow.holds Try.pinned (OpenSpec.upto fnExactFewestCallsSpec)

/-- 'laws.FnExactGossipCalls', WHERE WHAT IT READS IS OF BULK AT MOST 1048576: true; the input reads as it did. -/
def fnExactGossipCallsUptoRow : OpenClaim := { program := "ytcdngkehajifcaa", sum := "6f71164a43e2c2a5162b798a8c861b9d7953a0c77cb0705a931fcbf6429498ab", func := "loop.example/g01257/laws.FnExactGossipCalls", spec := "fnExactGossipCalls", apart := false, narrowed := true }
def FnExactGossipCallsUptoSaid : Prop := fnExactGossipCallsUptoRow.holds Try.pinned (OpenSpec.upto fnExactGossipCallsSpec)

/-- 'laws.FnExactUselessCalls', WHERE WHAT IT READS IS OF BULK AT MOST 1048576: true; the input reads as it did. -/
def fnExactUselessCallsUptoRow : OpenClaim := { program := "ytcdngkehajifcaa", sum := "6f71164a43e2c2a5162b798a8c861b9d7953a0c77cb0705a931fcbf6429498ab", func := "loop.example/g01257/laws.FnExactUselessCalls", spec := "fnExactUselessCalls", unfollowed := true, recurses := true, apart := false, narrowed := true }
def FnExactUselessCallsUptoSaid : Prop := fnExactUselessCallsUptoRow.holds Try.pinned (OpenSpec.upto fnExactUselessCallsSpec)

/-- 'laws.FnExactFirstHeard', WHERE WHAT IT READS IS OF BULK AT MOST 1048576: true; the input reads as it did. -/
def fnExactFirstHeardUptoRow : OpenClaim := { program := "ytcdngkehajifcaa", sum := "6f71164a43e2c2a5162b798a8c861b9d7953a0c77cb0705a931fcbf6429498ab", func := "loop.example/g01257/laws.FnExactFirstHeard", spec := "fnExactFirstHeard", unfollowed := true, recurses := true, apart := false, narrowed := true }
def FnExactFirstHeardUptoSaid : Prop := fnExactFirstHeardUptoRow.holds Try.pinned (OpenSpec.upto fnExactFirstHeardSpec)

/-- 'laws.FnExactAllKnowAll', WHERE WHAT IT READS IS OF BULK AT MOST 1048576: true; the input reads as it did. -/
def fnExactAllKnowAllUptoRow : OpenClaim := { program := "ytcdngkehajifcaa", sum := "6f71164a43e2c2a5162b798a8c861b9d7953a0c77cb0705a931fcbf6429498ab", func := "loop.example/g01257/laws.FnExactAllKnowAll", spec := "fnExactAllKnowAll", unfollowed := true, recurses := true, apart := false, narrowed := true }
def FnExactAllKnowAllUptoSaid : Prop := fnExactAllKnowAllUptoRow.holds Try.pinned (OpenSpec.upto fnExactAllKnowAllSpec)

/-- 'laws.FnExactMakeStar', WHERE WHAT IT READS IS OF BULK AT MOST 1048576: true; the input reads as it did. -/
def fnExactMakeStarUptoRow : OpenClaim := { program := "ytcdngkehajifcaa", sum := "6f71164a43e2c2a5162b798a8c861b9d7953a0c77cb0705a931fcbf6429498ab", func := "loop.example/g01257/laws.FnExactMakeStar", spec := "fnExactMakeStar", recurses := true, apart := false, narrowed := true }
def FnExactMakeStarUptoSaid : Prop := fnExactMakeStarUptoRow.holds Try.pinned (OpenSpec.upto fnExactMakeStarSpec)

end Rows
end Go.Proofs.Ytcdngkehajifcaa
