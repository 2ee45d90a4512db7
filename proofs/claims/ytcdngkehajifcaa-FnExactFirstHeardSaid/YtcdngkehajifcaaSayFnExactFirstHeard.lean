-- Written by wip/tools/gprint.py: the pure statement of one law.
import Derived.Test.YtcdngkehajifcaaQ27
namespace Go.Proofs.Ytcdngkehajifcaa.Q
open Go.RowKit
/-- The pure statement of laws_FnExactFirstHeard: over numbers and lists, without Go and memory. -/
def laws_FnExactFirstHeard.Pure : Prop := ∀ (a0 : Int) (l1 : List S96) (a2 : Int) (a3 : Int), (Lit.int .i64 a0).wf = true → l1.length ≤ 9223372036854775807 → (∀ x ∈ l1, (Lit.int .i64 x.f0).wf = true ∧ (Lit.int .i64 x.f1).wf = true) → (Lit.int .i64 a2).wf = true → (Lit.int .i64 a3).wf = true → ∃ k, laws_FnExactFirstHeard.f k a0 l1 a2 a3 = some true
end Go.Proofs.Ytcdngkehajifcaa.Q
