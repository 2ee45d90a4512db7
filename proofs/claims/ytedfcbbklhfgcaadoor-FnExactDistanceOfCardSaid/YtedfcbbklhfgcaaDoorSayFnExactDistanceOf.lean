-- Written by wip/tools/gprint.py: the pure statement of one law.
import Derived.Test.YtedfcbbklhfgcaaDoorQ36
namespace Go.Proofs.YtedfcbbklhfgcaaDoor.Q
open Go.RowKit
/-- The pure statement of laws_FnExactDistanceOf: over numbers and lists, without Go and memory. -/
def laws_FnExactDistanceOf.Pure : Prop := ∀ (a0_0 : Int) (l0_1 : List S70) (a1 : Int) (a2 : Int), (Lit.int .i64 a0_0).wf = true → l0_1.length ≤ 9223372036854775807 → (∀ x ∈ l0_1, (Lit.int .i64 x.f0).wf = true ∧ (Lit.int .i64 x.f1).wf = true) → (Lit.int .i64 a1).wf = true → (Lit.int .i64 a2).wf = true → ∃ k, laws_FnExactDistanceOf.f k a0_0 l0_1 a1 a2 = some true
end Go.Proofs.YtedfcbbklhfgcaaDoor.Q
