-- Written by wip/tools/gprint.py: the pure statement of one law.
import Derived.Test.YteffcgocnkcpiaaDoorQ35
namespace Go.Proofs.YteffcgocnkcpiaaDoor.Q
open Go.RowKit
/-- The pure statement of laws_FnExactOneColourGroup: over numbers and lists, without Go and memory. -/
def laws_FnExactOneColourGroup.Pure : Prop := ∀ (a0_0 : Int) (a0_1 : Int) (l0_2 : List Int) (a1 : Int), (Lit.int .i64 a0_0).wf = true → (Lit.int .i64 a0_1).wf = true → l0_2.length ≤ 9223372036854775807 → (∀ x ∈ l0_2, (Lit.int .i64 x).wf = true) → (Lit.int .i64 a1).wf = true → ∃ k, laws_FnExactOneColourGroup.f k a0_0 a0_1 l0_2 a1 = some true
end Go.Proofs.YteffcgocnkcpiaaDoor.Q
