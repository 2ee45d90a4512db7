-- Written by wip/tools/gprint.py: the pure statement of one law.
import Derived.Test.YtagdkekkbdonfaaQ29
namespace Go.Proofs.Ytagdkekkbdonfaa.Q
open Go.RowKit
/-- The pure statement of laws_FnExactQuestionsForStar: over numbers and lists, without Go and memory. -/
def laws_FnExactQuestionsForStar.Pure : Prop := ∀ (l0 : List (List Int)), l0.length ≤ 9223372036854775807 → (∀ x ∈ l0, x.length ≤ 9223372036854775807 ∧ ∀ z ∈ x, (Lit.int .i64 z).wf = true) → ∃ k, laws_FnExactQuestionsForStar.f k l0 = some true
end Go.Proofs.Ytagdkekkbdonfaa.Q
