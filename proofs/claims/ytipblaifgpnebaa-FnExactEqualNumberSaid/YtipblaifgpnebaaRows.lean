/-
  No cell of these rows narrows 'for every input' (looked for: loops, veiled, ifaces, maps, wideKeys, modest, calm, conditions, laid).
  DERIVED. THE GIVEN ROWS OF THIS SEAT. 8 by the template 'for every input the law returns true; each argument reads behind the call as it read before'; 0 by the template 'total and deterministic' (their statements: YtipblaifgpnebaaTotals.lean).
  GIVEN WITH THE SEED: the statements are not yours to turn. If you find one false, say at which input.
  Laid BY PROGRAM, IN A SANDBOX (cutbox-rows.mjs): the forced cells as the released guide's own fill.sh prints them over the translation 5c9749f3b8ee3945… (all of the seat's roots in one cut). By AI agents, Wed Nov 11 2026. No macro, syntax, notation, axiom, sorry.
-/
import Derived.Test.YtipblaifgpnebaaChecked
import GoSem.Claim
import GoSem.ClaimJoined
import GoSem.ClaimMapViews
import Derived.JoinedTies
import Derived.KernelRfl
namespace Go.Proofs.Ytipblaifgpnebaa
/- THE CELL 'sum', in the pinned program and in every row, IS THE sha256 OF THE DUMP (.gsa) THAT YtipblaifgpnebaaProg.lean LOADS. Nothing in Lean hashes anything: it is a label: what it is worth is what the hold of that sum in a sandbox is worth. -/
noncomputable def Try.pinned : Pinned := { name := "ytipblaifgpnebaa", sum := "5c9749f3b8ee3945ff8125af22d84623825db51a33a7db1772a7185a76fed8dd", checked := Try.checked }
namespace Rows
def none {H : Type} : Left H := { results := [], args := [] }

/-- 'laws.FnExactPoliticianOf': WHATEVER THE INPUT: true; the input reads as it did. -/
def fnExactPoliticianOfSpec : ChangeSpec := { name := "fnExactPoliticianOf", fn := fun _ => fun
  | [d] => { results := [.lit (.bool true)], args := [d] }
  | _ => none }
def fnExactPoliticianOfRow : OpenClaim := { program := "ytipblaifgpnebaa", sum := "5c9749f3b8ee3945ff8125af22d84623825db51a33a7db1772a7185a76fed8dd", func := "loop.example/g01257/laws.FnExactPoliticianOf", spec := "fnExactPoliticianOf", apart := false }
def FnExactPoliticianOfSaid : Prop := fnExactPoliticianOfRow.holds Try.pinned (OpenSpec.ofChange fnExactPoliticianOfSpec)

/-- ITS FALSE NEIGHBOUR: 'it returns false'. Refute it at one input. -/
def fnExactPoliticianOfWrong : ChangeSpec := { name := "fnExactPoliticianOf", fn := fun _ => fun
  | [d] => { results := [.lit (.bool false)], args := [d] }
  | _ => none }
def FnExactPoliticianOfWrongFalsely : Prop := fnExactPoliticianOfRow.holds Try.pinned (OpenSpec.ofChange fnExactPoliticianOfWrong)

/-- 'laws.FnExactIsFriendly': WHATEVER THE INPUT: true; the input reads as it did. -/
def fnExactIsFriendlySpec : ChangeSpec := { name := "fnExactIsFriendly", fn := fun _ => fun
  | [d] => { results := [.lit (.bool true)], args := [d] }
  | _ => none }
def fnExactIsFriendlyRow : OpenClaim := { program := "ytipblaifgpnebaa", sum := "5c9749f3b8ee3945ff8125af22d84623825db51a33a7db1772a7185a76fed8dd", func := "loop.example/g01257/laws.FnExactIsFriendly", spec := "fnExactIsFriendly", apart := false }
def FnExactIsFriendlySaid : Prop := fnExactIsFriendlyRow.holds Try.pinned (OpenSpec.ofChange fnExactIsFriendlySpec)

/-- ITS FALSE NEIGHBOUR: 'it returns false'. Refute it at one input. -/
def fnExactIsFriendlyWrong : ChangeSpec := { name := "fnExactIsFriendly", fn := fun _ => fun
  | [d] => { results := [.lit (.bool false)], args := [d] }
  | _ => none }
def FnExactIsFriendlyWrongFalsely : Prop := fnExactIsFriendlyRow.holds Try.pinned (OpenSpec.ofChange fnExactIsFriendlyWrong)

/-- 'laws.FnExactUselessCalls': WHATEVER THE INPUT: true; the input reads as it did. -/
def fnExactUselessCallsSpec : ChangeSpec := { name := "fnExactUselessCalls", fn := fun _ => fun
  | [d1, d2] => { results := [.lit (.bool true)], args := [d1, d2] }
  | _ => none }
def fnExactUselessCallsRow : OpenClaim := { program := "ytipblaifgpnebaa", sum := "5c9749f3b8ee3945ff8125af22d84623825db51a33a7db1772a7185a76fed8dd", func := "loop.example/g01257/laws.FnExactUselessCalls", spec := "fnExactUselessCalls", unfollowed := true, recurses := true, apart := false }
def FnExactUselessCallsSaid : Prop := fnExactUselessCallsRow.holds Try.pinned (OpenSpec.ofChange fnExactUselessCallsSpec)

/-- ITS FALSE NEIGHBOUR: 'it returns false'. Refute it at one input. -/
def fnExactUselessCallsWrong : ChangeSpec := { name := "fnExactUselessCalls", fn := fun _ => fun
  | [d1, d2] => { results := [.lit (.bool false)], args := [d1, d2] }
  | _ => none }
def FnExactUselessCallsWrongFalsely : Prop := fnExactUselessCallsRow.holds Try.pinned (OpenSpec.ofChange fnExactUselessCallsWrong)

/-- 'laws.FnExactCircleParty': WHATEVER THE INPUT: true; the input reads as it did. -/
def fnExactCirclePartySpec : ChangeSpec := { name := "fnExactCircleParty", fn := fun _ => fun
  | [d1, d2] => { results := [.lit (.bool true)], args := [d1, d2] }
  | _ => none }
def fnExactCirclePartyRow : OpenClaim := { program := "ytipblaifgpnebaa", sum := "5c9749f3b8ee3945ff8125af22d84623825db51a33a7db1772a7185a76fed8dd", func := "loop.example/g01257/laws.FnExactCircleParty", spec := "fnExactCircleParty", unfollowed := true, recurses := true, apart := false }
def FnExactCirclePartySaid : Prop := fnExactCirclePartyRow.holds Try.pinned (OpenSpec.ofChange fnExactCirclePartySpec)

/-- ITS FALSE NEIGHBOUR: 'it returns false'. Refute it at one input. -/
def fnExactCirclePartyWrong : ChangeSpec := { name := "fnExactCircleParty", fn := fun _ => fun
  | [d1, d2] => { results := [.lit (.bool false)], args := [d1, d2] }
  | _ => none }
def FnExactCirclePartyWrongFalsely : Prop := fnExactCirclePartyRow.holds Try.pinned (OpenSpec.ofChange fnExactCirclePartyWrong)

/-- 'laws.FnExactEqualNumber': WHATEVER THE INPUT: true; the input reads as it did. -/
def fnExactEqualNumberSpec : ChangeSpec := { name := "fnExactEqualNumber", fn := fun _ => fun
  | [d] => { results := [.lit (.bool true)], args := [d] }
  | _ => none }
def fnExactEqualNumberRow : OpenClaim := { program := "ytipblaifgpnebaa", sum := "5c9749f3b8ee3945ff8125af22d84623825db51a33a7db1772a7185a76fed8dd", func := "loop.example/g01257/laws.FnExactEqualNumber", spec := "fnExactEqualNumber", apart := false }
def FnExactEqualNumberSaid : Prop := fnExactEqualNumberRow.holds Try.pinned (OpenSpec.ofChange fnExactEqualNumberSpec)

/-- ITS FALSE NEIGHBOUR: 'it returns false'. Refute it at one input. -/
def fnExactEqualNumberWrong : ChangeSpec := { name := "fnExactEqualNumber", fn := fun _ => fun
  | [d] => { results := [.lit (.bool false)], args := [d] }
  | _ => none }
def FnExactEqualNumberWrongFalsely : Prop := fnExactEqualNumberRow.holds Try.pinned (OpenSpec.ofChange fnExactEqualNumberWrong)

/-- 'laws.FnExactEnoughTogether': WHATEVER THE INPUT: true; the input reads as it did. -/
def fnExactEnoughTogetherSpec : ChangeSpec := { name := "fnExactEnoughTogether", fn := fun _ => fun
  | [d] => { results := [.lit (.bool true)], args := [d] }
  | _ => none }
def fnExactEnoughTogetherRow : OpenClaim := { program := "ytipblaifgpnebaa", sum := "5c9749f3b8ee3945ff8125af22d84623825db51a33a7db1772a7185a76fed8dd", func := "loop.example/g01257/laws.FnExactEnoughTogether", spec := "fnExactEnoughTogether", apart := false }
def FnExactEnoughTogetherSaid : Prop := fnExactEnoughTogetherRow.holds Try.pinned (OpenSpec.ofChange fnExactEnoughTogetherSpec)

/-- ITS FALSE NEIGHBOUR: 'it returns false'. Refute it at one input. -/
def fnExactEnoughTogetherWrong : ChangeSpec := { name := "fnExactEnoughTogether", fn := fun _ => fun
  | [d] => { results := [.lit (.bool false)], args := [d] }
  | _ => none }
def FnExactEnoughTogetherWrongFalsely : Prop := fnExactEnoughTogetherRow.holds Try.pinned (OpenSpec.ofChange fnExactEnoughTogetherWrong)

/-- 'laws.FnExactPairParty': WHATEVER THE INPUT: true; the input reads as it did. -/
def fnExactPairPartySpec : ChangeSpec := { name := "fnExactPairParty", fn := fun _ => fun
  | [d] => { results := [.lit (.bool true)], args := [d] }
  | _ => none }
def fnExactPairPartyRow : OpenClaim := { program := "ytipblaifgpnebaa", sum := "5c9749f3b8ee3945ff8125af22d84623825db51a33a7db1772a7185a76fed8dd", func := "loop.example/g01257/laws.FnExactPairParty", spec := "fnExactPairParty", apart := false }
def FnExactPairPartySaid : Prop := fnExactPairPartyRow.holds Try.pinned (OpenSpec.ofChange fnExactPairPartySpec)

/-- ITS FALSE NEIGHBOUR: 'it returns false'. Refute it at one input. -/
def fnExactPairPartyWrong : ChangeSpec := { name := "fnExactPairParty", fn := fun _ => fun
  | [d] => { results := [.lit (.bool false)], args := [d] }
  | _ => none }
def FnExactPairPartyWrongFalsely : Prop := fnExactPairPartyRow.holds Try.pinned (OpenSpec.ofChange fnExactPairPartyWrong)

/-- 'laws.FnExactLinesOf': WHATEVER THE INPUT: true; the input reads as it did. -/
def fnExactLinesOfSpec : ChangeSpec := { name := "fnExactLinesOf", fn := fun _ => fun
  | [d] => { results := [.lit (.bool true)], args := [d] }
  | _ => none }
def fnExactLinesOfRow : OpenClaim := { program := "ytipblaifgpnebaa", sum := "5c9749f3b8ee3945ff8125af22d84623825db51a33a7db1772a7185a76fed8dd", func := "loop.example/g01257/laws.FnExactLinesOf", spec := "fnExactLinesOf", apart := false }
def FnExactLinesOfSaid : Prop := fnExactLinesOfRow.holds Try.pinned (OpenSpec.ofChange fnExactLinesOfSpec)

/-- ITS FALSE NEIGHBOUR: 'it returns false'. Refute it at one input. -/
def fnExactLinesOfWrong : ChangeSpec := { name := "fnExactLinesOf", fn := fun _ => fun
  | [d] => { results := [.lit (.bool false)], args := [d] }
  | _ => none }
def FnExactLinesOfWrongFalsely : Prop := fnExactLinesOfRow.holds Try.pinned (OpenSpec.ofChange fnExactLinesOfWrong)

/- THE SECOND FORM. 'bulk': how many values and letters a reading holds, each counted each time it is reached (what is shared counts as often as it is met; a slice's spare places count too). A statement '..UptoSaid' is the law's where the arguments, and the package variables that the reading takes, are together of bulk at most 1048576: NARROWER than '..Said'. Prove '..Said' where nothing that the law and all that it calls make is longer than what came in: it says more and counts as full. Else prove '..UptoSaid'. A law counts once. -/
mutual
def uptoBulk {H : Type} : DataW H → Nat
  | .lit (.string bytes) => bytes.length + 1
  | .lit _ => 1
  | .nil => 1
  | .ptr d => uptoBulk d + 1
  | .slice elems spare => uptoBulkAll elems + uptoBulkAll spare + 1
  | .agg parts => uptoBulkAll parts + 1
  | .iface _ d => uptoBulk d + 1
  | .map entries => uptoBulkEntries entries + 1
  | .held _ => 1
def uptoBulkAll {H : Type} : List (DataW H) → Nat
  | [] => 0
  | d :: r => uptoBulk d + uptoBulkAll r
def uptoBulkEntries {H : Type} : List (Lit × DataW H) → Nat
  | [] => 0
  | x :: r => uptoBulkEntry x + uptoBulkEntries r
def uptoBulkEntry {H : Type} : Lit × DataW H → Nat
  | (.string bytes, d) => bytes.length + uptoBulk d + 1
  | (_, d) => uptoBulk d + 1
 end
def uptoSmall : (H : Type) → List (DataW H) → Bool := fun _ ds => decide (uptoBulkAll ds ≤ 1048576)
def OpenSpec.upto (s : _root_.Go.ChangeSpec) : _root_.Go.OpenSpec := { _root_.Go.OpenSpec.ofChange s with cond := some uptoSmall }

/-- 'laws.FnExactPoliticianOf', WHERE WHAT IT READS IS OF BULK AT MOST 1048576: true; the input reads as it did. -/
def fnExactPoliticianOfUptoRow : OpenClaim := { program := "ytipblaifgpnebaa", sum := "5c9749f3b8ee3945ff8125af22d84623825db51a33a7db1772a7185a76fed8dd", func := "loop.example/g01257/laws.FnExactPoliticianOf", spec := "fnExactPoliticianOf", apart := false, narrowed := true }
def FnExactPoliticianOfUptoSaid : Prop := fnExactPoliticianOfUptoRow.holds Try.pinned (OpenSpec.upto fnExactPoliticianOfSpec)

/-- 'laws.FnExactIsFriendly', WHERE WHAT IT READS IS OF BULK AT MOST 1048576: true; the input reads as it did. -/
def fnExactIsFriendlyUptoRow : OpenClaim := { program := "ytipblaifgpnebaa", sum := "5c9749f3b8ee3945ff8125af22d84623825db51a33a7db1772a7185a76fed8dd", func := "loop.example/g01257/laws.FnExactIsFriendly", spec := "fnExactIsFriendly", apart := false, narrowed := true }
def FnExactIsFriendlyUptoSaid : Prop := fnExactIsFriendlyUptoRow.holds Try.pinned (OpenSpec.upto fnExactIsFriendlySpec)

/-- 'laws.FnExactUselessCalls', WHERE WHAT IT READS IS OF BULK AT MOST 1048576: true; the input reads as it did. -/
def fnExactUselessCallsUptoRow : OpenClaim := { program := "ytipblaifgpnebaa", sum := "5c9749f3b8ee3945ff8125af22d84623825db51a33a7db1772a7185a76fed8dd", func := "loop.example/g01257/laws.FnExactUselessCalls", spec := "fnExactUselessCalls", unfollowed := true, recurses := true, apart := false, narrowed := true }
def FnExactUselessCallsUptoSaid : Prop := fnExactUselessCallsUptoRow.holds Try.pinned (OpenSpec.upto fnExactUselessCallsSpec)

/-- 'laws.FnExactCircleParty', WHERE WHAT IT READS IS OF BULK AT MOST 1048576: true; the input reads as it did. -/
def fnExactCirclePartyUptoRow : OpenClaim := { program := "ytipblaifgpnebaa", sum := "5c9749f3b8ee3945ff8125af22d84623825db51a33a7db1772a7185a76fed8dd", func := "loop.example/g01257/laws.FnExactCircleParty", spec := "fnExactCircleParty", unfollowed := true, recurses := true, apart := false, narrowed := true }
def FnExactCirclePartyUptoSaid : Prop := fnExactCirclePartyUptoRow.holds Try.pinned (OpenSpec.upto fnExactCirclePartySpec)

/-- 'laws.FnExactEqualNumber', WHERE WHAT IT READS IS OF BULK AT MOST 1048576: true; the input reads as it did. -/
def fnExactEqualNumberUptoRow : OpenClaim := { program := "ytipblaifgpnebaa", sum := "5c9749f3b8ee3945ff8125af22d84623825db51a33a7db1772a7185a76fed8dd", func := "loop.example/g01257/laws.FnExactEqualNumber", spec := "fnExactEqualNumber", apart := false, narrowed := true }
def FnExactEqualNumberUptoSaid : Prop := fnExactEqualNumberUptoRow.holds Try.pinned (OpenSpec.upto fnExactEqualNumberSpec)

/-- 'laws.FnExactEnoughTogether', WHERE WHAT IT READS IS OF BULK AT MOST 1048576: true; the input reads as it did. -/
def fnExactEnoughTogetherUptoRow : OpenClaim := { program := "ytipblaifgpnebaa", sum := "5c9749f3b8ee3945ff8125af22d84623825db51a33a7db1772a7185a76fed8dd", func := "loop.example/g01257/laws.FnExactEnoughTogether", spec := "fnExactEnoughTogether", apart := false, narrowed := true }
def FnExactEnoughTogetherUptoSaid : Prop := fnExactEnoughTogetherUptoRow.holds Try.pinned (OpenSpec.upto fnExactEnoughTogetherSpec)

/-- 'laws.FnExactPairParty', WHERE WHAT IT READS IS OF BULK AT MOST 1048576: true; the input reads as it did. -/
def fnExactPairPartyUptoRow : OpenClaim := { program := "ytipblaifgpnebaa", sum := "5c9749f3b8ee3945ff8125af22d84623825db51a33a7db1772a7185a76fed8dd", func := "loop.example/g01257/laws.FnExactPairParty", spec := "fnExactPairParty", apart := false, narrowed := true }
def FnExactPairPartyUptoSaid : Prop := fnExactPairPartyUptoRow.holds Try.pinned (OpenSpec.upto fnExactPairPartySpec)

/-- 'laws.FnExactLinesOf', WHERE WHAT IT READS IS OF BULK AT MOST 1048576: true; the input reads as it did. -/
def fnExactLinesOfUptoRow : OpenClaim := { program := "ytipblaifgpnebaa", sum := "5c9749f3b8ee3945ff8125af22d84623825db51a33a7db1772a7185a76fed8dd", func := "loop.example/g01257/laws.FnExactLinesOf", spec := "fnExactLinesOf", apart := false, narrowed := true }
def FnExactLinesOfUptoSaid : Prop := fnExactLinesOfUptoRow.holds Try.pinned (OpenSpec.upto fnExactLinesOfSpec)

end Rows
end Go.Proofs.Ytipblaifgpnebaa
