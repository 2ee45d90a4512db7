import Derived.Test.YtcdngkehajifcaaQ0
import Derived.Test.YtcdngkehajifcaaQ1
import Derived.Test.YtcdngkehajifcaaQ4
import Derived.Test.YtcdngkehajifcaaQ16
/- Plain lemmas over rounds, lists and whole numbers, for the pure statements of this seat. No condition. -/
namespace Go.Proofs.Ytcdngkehajifcaa.Plain
open Go.RowKit Go.Proofs.YtcdngkehajifcaaW.PrintWords Go.Proofs.YtcdngkehajifcaaW.PrintLast
set_option linter.unusedVariables false

end Go.Proofs.Ytcdngkehajifcaa.Plain

/- The law's own functions over lists of whole numbers: copies, equality, bounds. No condition but lengths that fit. -/
namespace Go.Proofs.Ytcdngkehajifcaa.Plain
open Go.RowKit Go.Proofs.YtcdngkehajifcaaW.PrintWords Go.Proofs.YtcdngkehajifcaaW.PrintLast
set_option linter.unusedVariables false
open Q

theorem l1In_eq (a b c : Int) : spec_l1In.f a b c = some (decide (b ≤ a) && decide (a ≤ c)) := by
  unfold spec_l1In.f
  by_cases h : b ≤ a <;> simp [h]

theorem within_eq (a b c : Int) : impl_within.f a b c = some (decide (b ≤ a) && decide (a ≤ c)) := by
  unfold impl_within.f
  by_cases h : b ≤ a <;> simp [h]

end Go.Proofs.Ytcdngkehajifcaa.Plain
/- The program's FewestCalls returns what the reference's returns, for all arguments. No condition. -/
namespace Go.Proofs.Ytcdngkehajifcaa.Pure
open Go.RowKit Go.Proofs.YtcdngkehajifcaaW.PrintWords Go.Proofs.YtcdngkehajifcaaW.PrintLast
set_option linter.unusedVariables false
open Q Plain

theorem impl_out (k : Nat) {n : Int} (h : ¬ (1 ≤ n ∧ n ≤ 12)) : impl_FewestCalls.f k n = some (0, false) := by
  unfold impl_FewestCalls.f impl_areSome.f
  rw [within_eq, Option.bind_some, Option.bind_some, if_neg]
  intro q
  simp only [Bool.and_eq_true, decide_eq_true_eq] at q
  exact h q
theorem spec_out {n : Int} (h : ¬ (1 ≤ n ∧ n ≤ 12)) : spec_FewestCalls.f n = some (0, false) := by
  unfold spec_FewestCalls.f
  rw [l1In_eq, Option.bind_some, if_neg]
  intro q
  simp only [Bool.and_eq_true, decide_eq_true_eq] at q
  exact h q
theorem FnExactFewestCalls : laws_FnExactFewestCalls.Pure := by
  intro n _
  by_cases h : 1 ≤ n ∧ n ≤ 12
  · have hc : n = 1 ∨ n = 2 ∨ n = 3 ∨ n = 4 ∨ n = 5 ∨ n = 6 ∨ n = 7 ∨ n = 8 ∨ n = 9 ∨ n = 10 ∨ n = 11 ∨ n = 12 := by omega
    rcases hc with rfl | rfl | rfl | rfl | rfl | rfl | rfl | rfl | rfl | rfl | rfl | rfl <;> exact ⟨60, by decide +kernel⟩
  · refine ⟨20, ?_⟩
    unfold laws_FnExactFewestCalls.f
    rw [spec_out h, Option.bind_some, impl_out 20 h, Option.bind_some, if_pos rfl, if_neg (by simp)]
end Go.Proofs.Ytcdngkehajifcaa.Pure
