-- Written by wip/tools/gprint.py: the pure statement of one law.
import Derived.Test.YteffcgocnkcpiaaDoorQ38
namespace Go.Proofs.YteffcgocnkcpiaaDoor.Q
open Go.RowKit
/-- The pure statement of laws_FnExactMostOneColour: over numbers and lists, without Go and memory. -/
def laws_FnExactMostOneColour.Pure : Prop := ∀ (a0_0 : Int) (a0_1 : Int) (l0_2 : List Int), (Lit.int .i64 a0_0).wf = true → (Lit.int .i64 a0_1).wf = true → l0_2.length ≤ 9223372036854775807 → (∀ x ∈ l0_2, (Lit.int .i64 x).wf = true) → ∃ k, laws_FnExactMostOneColour.f k a0_0 a0_1 l0_2 = some true
end Go.Proofs.YteffcgocnkcpiaaDoor.Q
