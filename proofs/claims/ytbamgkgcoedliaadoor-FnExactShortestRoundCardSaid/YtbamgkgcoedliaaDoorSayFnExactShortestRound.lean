-- Written by wip/tools/gprint.py: the pure statement of one law.
import Derived.Test.YtbamgkgcoedliaaDoorQ35
namespace Go.Proofs.YtbamgkgcoedliaaDoor.Q
open Go.RowKit
/-- The pure statement of laws_FnExactShortestRound: over numbers and lists, without Go and memory. -/
def laws_FnExactShortestRound.Pure : Prop := ∀ (a0_0 : Int) (l0_1 : List S55), (Lit.int .i64 a0_0).wf = true → l0_1.length ≤ 9223372036854775807 → (∀ x ∈ l0_1, (Lit.int .i64 x.f0).wf = true ∧ (Lit.int .i64 x.f1).wf = true) → ∃ k, laws_FnExactShortestRound.f k a0_0 l0_1 = some true
end Go.Proofs.YtbamgkgcoedliaaDoor.Q
