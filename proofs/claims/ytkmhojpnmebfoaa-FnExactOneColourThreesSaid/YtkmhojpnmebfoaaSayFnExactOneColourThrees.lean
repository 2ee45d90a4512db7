-- Written by wip/tools/gprint.py: the pure statement of one law.
import Derived.Test.YtkmhojpnmebfoaaQ55
namespace Go.Proofs.Ytkmhojpnmebfoaa.Q
open Go.RowKit
/-- The pure statement of laws_FnExactOneColourThrees: over numbers and lists, without Go and memory. -/
def laws_FnExactOneColourThrees.Pure : Prop := ∀ (a0_0 : Int) (a0_1 : Int) (l0_2 : List Int), (Lit.int .i64 a0_0).wf = true → (Lit.int .i64 a0_1).wf = true → l0_2.length ≤ 9223372036854775807 → (∀ x ∈ l0_2, (Lit.int .i64 x).wf = true) → ∃ k, laws_FnExactOneColourThrees.f k a0_0 a0_1 l0_2 = some true
end Go.Proofs.Ytkmhojpnmebfoaa.Q
