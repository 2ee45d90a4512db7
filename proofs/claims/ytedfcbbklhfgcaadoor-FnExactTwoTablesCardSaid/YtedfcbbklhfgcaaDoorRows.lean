/-
  NARROWER THAN 'FOR EVERY INPUT', by the rows' own cells (each row's printed sentence says how): FnExactDistanceOf: laid · FnExactShortestRound: laid · FnExactWidestDistance: laid · FnExactTablesApart: laid · FnExactTwoTables: laid.
  DERIVED. THE GIVEN ROWS OF THIS SEAT. 5 by the template 'for every input the law returns true; each argument reads behind the call as it read before'; 0 by the template 'total and deterministic' (their statements: YtedfcbbklhfgcaaDoorTotals.lean).
  GIVEN WITH THE SEED: the statements are not yours to turn. If you find one false, say at which input.
  Laid BY PROGRAM, IN A SANDBOX (cutbox-rows.mjs): the forced cells as the released guide's own fill.sh prints them over the translation ef9761145eeaadc1… (all of the seat's roots in one cut). By AI agents, Wed Nov 11 2026. No macro, syntax, notation, axiom, sorry.
-/
import Derived.Test.YtedfcbbklhfgcaaDoorChecked
import GoSem.Claim
import GoSem.ClaimJoined
import GoSem.ClaimMapViews
import Derived.JoinedTies
import Derived.KernelRfl
namespace Go.Proofs.YtedfcbbklhfgcaaDoor
/- THE CELL 'sum', in the pinned program and in every row, IS THE sha256 OF THE DUMP (.gsa) THAT YtedfcbbklhfgcaaDoorProg.lean LOADS. Nothing in Lean hashes anything: it is a label: what it is worth is what the hold of that sum in a sandbox is worth. -/
noncomputable def Tryd.pinned : Pinned := { name := "ytedfcbbklhfgcaadoor", sum := "ef9761145eeaadc14f7ed871796e6b77176b2b90e0f6197648b249cc6f5023f4", checked := Tryd.checked }
namespace Rows
def none {H : Type} : Left H := { results := [], args := [] }

/- WHAT THE LISTED PACKAGE-LEVEL VARIABLES READ AS WHEN THE CALL BEGINS. Each datum BY PROGRAM (the guide's laid-datum.mjs) off the statement by which the dump's own 'gosem.cut.vars' lays the variable. In a bare row this is a premise. The card (YtedfcbbklhfgcaaDoorCards.lean) ties it to the program's text. -/
def laid_math_bits_deBruijn32tab {H : Type} : DataW H := .agg [.lit (.int .u8 0), .lit (.int .u8 1), .lit (.int .u8 28), .lit (.int .u8 2), .lit (.int .u8 29), .lit (.int .u8 14), .lit (.int .u8 24), .lit (.int .u8 3), .lit (.int .u8 30), .lit (.int .u8 22), .lit (.int .u8 20), .lit (.int .u8 15), .lit (.int .u8 25), .lit (.int .u8 17), .lit (.int .u8 4), .lit (.int .u8 8), .lit (.int .u8 31), .lit (.int .u8 27), .lit (.int .u8 13), .lit (.int .u8 23), .lit (.int .u8 21), .lit (.int .u8 19), .lit (.int .u8 16), .lit (.int .u8 7), .lit (.int .u8 26), .lit (.int .u8 12), .lit (.int .u8 18), .lit (.int .u8 6), .lit (.int .u8 11), .lit (.int .u8 5), .lit (.int .u8 10), .lit (.int .u8 9)]

/-- 'laws.FnExactDistanceOf': WHATEVER THE INPUT: true; the input reads as it did. -/
def fnExactDistanceOfSpec : ChangeSpec := { name := "fnExactDistanceOf", fn := fun _ => fun
  | [d1, d2, d3] => { results := [.lit (.bool true)], args := [d1, d2, d3] }
  | _ => none }
def fnExactDistanceOfRow : OpenClaim := { program := "ytedfcbbklhfgcaadoor", sum := "ef9761145eeaadc14f7ed871796e6b77176b2b90e0f6197648b249cc6f5023f4", func := "loop.example/g01257/laws.FnExactDistanceOf", spec := "fnExactDistanceOf", unfollowed := true, recurses := true, named := ["math/bits.deBruijn32tab"], apart := false, laid := [("math/bits.deBruijn32tab", laid_math_bits_deBruijn32tab)] }
def FnExactDistanceOfSaid : Prop := fnExactDistanceOfRow.holds Tryd.pinned (OpenSpec.ofChange fnExactDistanceOfSpec)

/-- ITS FALSE NEIGHBOUR: 'it returns false'. Refute it at one input. -/
def fnExactDistanceOfWrong : ChangeSpec := { name := "fnExactDistanceOf", fn := fun _ => fun
  | [d1, d2, d3] => { results := [.lit (.bool false)], args := [d1, d2, d3] }
  | _ => none }
def FnExactDistanceOfWrongFalsely : Prop := fnExactDistanceOfRow.holds Tryd.pinned (OpenSpec.ofChange fnExactDistanceOfWrong)

/-- 'laws.FnExactShortestRound': WHATEVER THE INPUT: true; the input reads as it did. -/
def fnExactShortestRoundSpec : ChangeSpec := { name := "fnExactShortestRound", fn := fun _ => fun
  | [d] => { results := [.lit (.bool true)], args := [d] }
  | _ => none }
def fnExactShortestRoundRow : OpenClaim := { program := "ytedfcbbklhfgcaadoor", sum := "ef9761145eeaadc14f7ed871796e6b77176b2b90e0f6197648b249cc6f5023f4", func := "loop.example/g01257/laws.FnExactShortestRound", spec := "fnExactShortestRound", named := ["math/bits.deBruijn32tab"], apart := false, laid := [("math/bits.deBruijn32tab", laid_math_bits_deBruijn32tab)] }
def FnExactShortestRoundSaid : Prop := fnExactShortestRoundRow.holds Tryd.pinned (OpenSpec.ofChange fnExactShortestRoundSpec)

/-- ITS FALSE NEIGHBOUR: 'it returns false'. Refute it at one input. -/
def fnExactShortestRoundWrong : ChangeSpec := { name := "fnExactShortestRound", fn := fun _ => fun
  | [d] => { results := [.lit (.bool false)], args := [d] }
  | _ => none }
def FnExactShortestRoundWrongFalsely : Prop := fnExactShortestRoundRow.holds Tryd.pinned (OpenSpec.ofChange fnExactShortestRoundWrong)

/-- 'laws.FnExactWidestDistance': WHATEVER THE INPUT: true; the input reads as it did. -/
def fnExactWidestDistanceSpec : ChangeSpec := { name := "fnExactWidestDistance", fn := fun _ => fun
  | [d] => { results := [.lit (.bool true)], args := [d] }
  | _ => none }
def fnExactWidestDistanceRow : OpenClaim := { program := "ytedfcbbklhfgcaadoor", sum := "ef9761145eeaadc14f7ed871796e6b77176b2b90e0f6197648b249cc6f5023f4", func := "loop.example/g01257/laws.FnExactWidestDistance", spec := "fnExactWidestDistance", named := ["math/bits.deBruijn32tab"], apart := false, laid := [("math/bits.deBruijn32tab", laid_math_bits_deBruijn32tab)] }
def FnExactWidestDistanceSaid : Prop := fnExactWidestDistanceRow.holds Tryd.pinned (OpenSpec.ofChange fnExactWidestDistanceSpec)

/-- ITS FALSE NEIGHBOUR: 'it returns false'. Refute it at one input. -/
def fnExactWidestDistanceWrong : ChangeSpec := { name := "fnExactWidestDistance", fn := fun _ => fun
  | [d] => { results := [.lit (.bool false)], args := [d] }
  | _ => none }
def FnExactWidestDistanceWrongFalsely : Prop := fnExactWidestDistanceRow.holds Tryd.pinned (OpenSpec.ofChange fnExactWidestDistanceWrong)

/-- 'laws.FnExactTablesApart': WHATEVER THE INPUT: true; the input reads as it did. -/
def fnExactTablesApartSpec : ChangeSpec := { name := "fnExactTablesApart", fn := fun _ => fun
  | [d] => { results := [.lit (.bool true)], args := [d] }
  | _ => none }
def fnExactTablesApartRow : OpenClaim := { program := "ytedfcbbklhfgcaadoor", sum := "ef9761145eeaadc14f7ed871796e6b77176b2b90e0f6197648b249cc6f5023f4", func := "loop.example/g01257/laws.FnExactTablesApart", spec := "fnExactTablesApart", named := ["math/bits.deBruijn32tab"], apart := false, laid := [("math/bits.deBruijn32tab", laid_math_bits_deBruijn32tab)] }
def FnExactTablesApartSaid : Prop := fnExactTablesApartRow.holds Tryd.pinned (OpenSpec.ofChange fnExactTablesApartSpec)

/-- ITS FALSE NEIGHBOUR: 'it returns false'. Refute it at one input. -/
def fnExactTablesApartWrong : ChangeSpec := { name := "fnExactTablesApart", fn := fun _ => fun
  | [d] => { results := [.lit (.bool false)], args := [d] }
  | _ => none }
def FnExactTablesApartWrongFalsely : Prop := fnExactTablesApartRow.holds Tryd.pinned (OpenSpec.ofChange fnExactTablesApartWrong)

/-- 'laws.FnExactTwoTables': WHATEVER THE INPUT: true; the input reads as it did. -/
def fnExactTwoTablesSpec : ChangeSpec := { name := "fnExactTwoTables", fn := fun _ => fun
  | [d] => { results := [.lit (.bool true)], args := [d] }
  | _ => none }
def fnExactTwoTablesRow : OpenClaim := { program := "ytedfcbbklhfgcaadoor", sum := "ef9761145eeaadc14f7ed871796e6b77176b2b90e0f6197648b249cc6f5023f4", func := "loop.example/g01257/laws.FnExactTwoTables", spec := "fnExactTwoTables", named := ["math/bits.deBruijn32tab"], apart := false, laid := [("math/bits.deBruijn32tab", laid_math_bits_deBruijn32tab)] }
def FnExactTwoTablesSaid : Prop := fnExactTwoTablesRow.holds Tryd.pinned (OpenSpec.ofChange fnExactTwoTablesSpec)

/-- ITS FALSE NEIGHBOUR: 'it returns false'. Refute it at one input. -/
def fnExactTwoTablesWrong : ChangeSpec := { name := "fnExactTwoTables", fn := fun _ => fun
  | [d] => { results := [.lit (.bool false)], args := [d] }
  | _ => none }
def FnExactTwoTablesWrongFalsely : Prop := fnExactTwoTablesRow.holds Tryd.pinned (OpenSpec.ofChange fnExactTwoTablesWrong)

/- THE SECOND FORM. 'bulk': how many values and letters a reading holds, each counted each time it is reached (what is shared counts as often as it is met; a slice's spare places count too). A statement '..UptoSaid' is the law's where the arguments, and the package variables that the reading takes, are together of bulk at most 1048576: NARROWER than '..Said'. Prove '..Said' where nothing that the law and all that it calls make is longer than what came in: it says more and counts as full. Else prove '..UptoSaid'. A law counts once. -/
mutual
def uptoBulk {H : Type} : DataW H → Nat
  | .lit (.string bytes) => bytes.length + 1
  | .lit _ => 1
  | .nil => 1
  | .ptr d => uptoBulk d + 1
  | .slice elems spare => uptoBulkAll elems + uptoBulkAll spare + 1
  | .agg parts => uptoBulkAll parts + 1
  | .iface _ d => uptoBulk d + 1
  | .map entries => uptoBulkEntries entries + 1
  | .held _ => 1
def uptoBulkAll {H : Type} : List (DataW H) → Nat
  | [] => 0
  | d :: r => uptoBulk d + uptoBulkAll r
def uptoBulkEntries {H : Type} : List (Lit × DataW H) → Nat
  | [] => 0
  | x :: r => uptoBulkEntry x + uptoBulkEntries r
def uptoBulkEntry {H : Type} : Lit × DataW H → Nat
  | (.string bytes, d) => bytes.length + uptoBulk d + 1
  | (_, d) => uptoBulk d + 1
 end
def uptoSmall : (H : Type) → List (DataW H) → Bool := fun _ ds => decide (uptoBulkAll ds ≤ 1048576)
def OpenSpec.upto (s : _root_.Go.ChangeSpec) : _root_.Go.OpenSpec := { _root_.Go.OpenSpec.ofChange s with cond := some uptoSmall }

/-- 'laws.FnExactDistanceOf', WHERE WHAT IT READS IS OF BULK AT MOST 1048576: true; the input reads as it did. -/
def fnExactDistanceOfUptoRow : OpenClaim := { program := "ytedfcbbklhfgcaadoor", sum := "ef9761145eeaadc14f7ed871796e6b77176b2b90e0f6197648b249cc6f5023f4", func := "loop.example/g01257/laws.FnExactDistanceOf", spec := "fnExactDistanceOf", unfollowed := true, recurses := true, named := ["math/bits.deBruijn32tab"], apart := false, laid := [("math/bits.deBruijn32tab", laid_math_bits_deBruijn32tab)], narrowed := true }
def FnExactDistanceOfUptoSaid : Prop := fnExactDistanceOfUptoRow.holds Tryd.pinned (OpenSpec.upto fnExactDistanceOfSpec)

/-- 'laws.FnExactShortestRound', WHERE WHAT IT READS IS OF BULK AT MOST 1048576: true; the input reads as it did. -/
def fnExactShortestRoundUptoRow : OpenClaim := { program := "ytedfcbbklhfgcaadoor", sum := "ef9761145eeaadc14f7ed871796e6b77176b2b90e0f6197648b249cc6f5023f4", func := "loop.example/g01257/laws.FnExactShortestRound", spec := "fnExactShortestRound", named := ["math/bits.deBruijn32tab"], apart := false, laid := [("math/bits.deBruijn32tab", laid_math_bits_deBruijn32tab)], narrowed := true }
def FnExactShortestRoundUptoSaid : Prop := fnExactShortestRoundUptoRow.holds Tryd.pinned (OpenSpec.upto fnExactShortestRoundSpec)

/-- 'laws.FnExactWidestDistance', WHERE WHAT IT READS IS OF BULK AT MOST 1048576: true; the input reads as it did. -/
def fnExactWidestDistanceUptoRow : OpenClaim := { program := "ytedfcbbklhfgcaadoor", sum := "ef9761145eeaadc14f7ed871796e6b77176b2b90e0f6197648b249cc6f5023f4", func := "loop.example/g01257/laws.FnExactWidestDistance", spec := "fnExactWidestDistance", named := ["math/bits.deBruijn32tab"], apart := false, laid := [("math/bits.deBruijn32tab", laid_math_bits_deBruijn32tab)], narrowed := true }
def FnExactWidestDistanceUptoSaid : Prop := fnExactWidestDistanceUptoRow.holds Tryd.pinned (OpenSpec.upto fnExactWidestDistanceSpec)

/-- 'laws.FnExactTablesApart', WHERE WHAT IT READS IS OF BULK AT MOST 1048576: true; the input reads as it did. -/
def fnExactTablesApartUptoRow : OpenClaim := { program := "ytedfcbbklhfgcaadoor", sum := "ef9761145eeaadc14f7ed871796e6b77176b2b90e0f6197648b249cc6f5023f4", func := "loop.example/g01257/laws.FnExactTablesApart", spec := "fnExactTablesApart", named := ["math/bits.deBruijn32tab"], apart := false, laid := [("math/bits.deBruijn32tab", laid_math_bits_deBruijn32tab)], narrowed := true }
def FnExactTablesApartUptoSaid : Prop := fnExactTablesApartUptoRow.holds Tryd.pinned (OpenSpec.upto fnExactTablesApartSpec)

/-- 'laws.FnExactTwoTables', WHERE WHAT IT READS IS OF BULK AT MOST 1048576: true; the input reads as it did. -/
def fnExactTwoTablesUptoRow : OpenClaim := { program := "ytedfcbbklhfgcaadoor", sum := "ef9761145eeaadc14f7ed871796e6b77176b2b90e0f6197648b249cc6f5023f4", func := "loop.example/g01257/laws.FnExactTwoTables", spec := "fnExactTwoTables", named := ["math/bits.deBruijn32tab"], apart := false, laid := [("math/bits.deBruijn32tab", laid_math_bits_deBruijn32tab)], narrowed := true }
def FnExactTwoTablesUptoSaid : Prop := fnExactTwoTablesUptoRow.holds Tryd.pinned (OpenSpec.upto fnExactTwoTablesSpec)

end Rows
end Go.Proofs.YtedfcbbklhfgcaaDoor
