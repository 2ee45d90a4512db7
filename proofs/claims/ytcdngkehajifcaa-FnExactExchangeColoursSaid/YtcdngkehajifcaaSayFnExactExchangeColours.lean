-- Written by wip/tools/gprint.py: the pure statement of one law.
import Derived.Test.YtcdngkehajifcaaQ26
namespace Go.Proofs.Ytcdngkehajifcaa.Q
open Go.RowKit
/-- The pure statement of laws_FnExactExchangeColours: over numbers and lists, without Go and memory. -/
def laws_FnExactExchangeColours.Pure : Prop := ∀ (a0_0 : Int) (a0_1 : Int) (l0_2 : List Int) (a1 : Int) (a2 : Int), (Lit.int .i64 a0_0).wf = true → (Lit.int .i64 a0_1).wf = true → l0_2.length ≤ 9223372036854775807 → (∀ x ∈ l0_2, (Lit.int .i64 x).wf = true) → (Lit.int .i64 a1).wf = true → (Lit.int .i64 a2).wf = true → ∃ k, laws_FnExactExchangeColours.f k a0_0 a0_1 l0_2 a1 a2 = some true
end Go.Proofs.Ytcdngkehajifcaa.Q
