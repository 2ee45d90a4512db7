-- Written by wip/tools/gprint.py: the pure statement of one law.
import Derived.Test.YtbghhkdjcogpdaaDoorQ27
namespace Go.Proofs.YtbghhkdjcogpdaaDoor.Q
open Go.RowKit
/-- The pure statement of laws_FnExactNewsAfter: over numbers and lists, without Go and memory. -/
def laws_FnExactNewsAfter.Pure : Prop := ∀ (a0 : Int) (l1 : List S49), (Lit.int .i64 a0).wf = true → l1.length ≤ 9223372036854775807 → (∀ x ∈ l1, (Lit.int .i64 x.f0).wf = true ∧ (Lit.int .i64 x.f1).wf = true) → ∃ k, laws_FnExactNewsAfter.f k a0 l1 = some true
end Go.Proofs.YtbghhkdjcogpdaaDoor.Q
