-- Written by wip/tools/gprint.py: the pure statement of one law.
import Derived.Test.YtghefgfacafboaaQ77
namespace Go.Proofs.Ytghefgfacafboaa.Q
open Go.RowKit
/-- The pure statement of laws_FnExactIsSeating: over numbers and lists, without Go and memory. -/
def laws_FnExactIsSeating.Pure : Prop := ∀ (a0_0 : Int) (l0_1 : List S72) (l1 : List Int), (Lit.int .i64 a0_0).wf = true → l0_1.length ≤ 9223372036854775807 → (∀ x ∈ l0_1, (Lit.int .i64 x.f0).wf = true ∧ (Lit.int .i64 x.f1).wf = true) → l1.length ≤ 9223372036854775807 → (∀ x ∈ l1, (Lit.int .i64 x).wf = true) → ∃ k, laws_FnExactIsSeating.f k a0_0 l0_1 l1 = some true
end Go.Proofs.Ytghefgfacafboaa.Q
