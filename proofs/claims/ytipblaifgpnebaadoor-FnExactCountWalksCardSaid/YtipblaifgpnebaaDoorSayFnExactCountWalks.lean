-- Written by wip/tools/gprint.py: the pure statement of one law.
import Derived.Test.YtipblaifgpnebaaDoorQ77
namespace Go.Proofs.YtipblaifgpnebaaDoor.Q
open Go.RowKit
/-- The pure statement of laws_FnExactCountWalks: over numbers and lists, without Go and memory. -/
def laws_FnExactCountWalks.Pure : Prop := ∀ (a0_0 : Int) (l0_1 : List S60) (a1 : Int) (a2 : Int) (a3 : Int), (Lit.int .i64 a0_0).wf = true → l0_1.length ≤ 9223372036854775807 → (∀ x ∈ l0_1, (Lit.int .i64 x.f0).wf = true ∧ (Lit.int .i64 x.f1).wf = true) → (Lit.int .i64 a1).wf = true → (Lit.int .i64 a2).wf = true → (Lit.int .i64 a3).wf = true → ∃ k, laws_FnExactCountWalks.f k a0_0 l0_1 a1 a2 a3 = some true
end Go.Proofs.YtipblaifgpnebaaDoor.Q
