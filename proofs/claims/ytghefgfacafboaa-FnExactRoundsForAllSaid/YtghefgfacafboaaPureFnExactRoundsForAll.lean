import Derived.Test.YtghefgfacafboaaQ0
import Derived.Test.YtghefgfacafboaaQ1
import Derived.Test.YtghefgfacafboaaQ3
import Derived.Test.YtghefgfacafboaaQ23

/- The program's RoundsForAll returns what the reference's returns, for all arguments. No condition. -/
namespace Go.Proofs.Ytghefgfacafboaa.Pure
open Go.RowKit Go.Proofs.YtghefgfacafboaaW.PrintWords Go.Proofs.YtghefgfacafboaaW.PrintLast
set_option linter.unusedVariables false
open Q

theorem roundsForAll_in : ∀ d : Fin 12, laws_FnExactRoundsForAll.f 100 ((d.val : Int) + 1) = some true := by decide +kernel

theorem FnExactRoundsForAll : laws_FnExactRoundsForAll.Pure := by
  intro a0 _
  by_cases h : 1 ≤ a0 ∧ a0 ≤ 12
  · obtain ⟨h1, h2⟩ := h
    refine ⟨100, ?_⟩
    have q := roundsForAll_in ⟨(a0 - 1).toNat, by omega⟩
    have e2 : (((a0 - 1).toNat : Nat) : Int) + 1 = a0 := by omega
    simpa only [e2] using q
  · have h' : ¬ (1 ≤ a0) ∨ ¬ (a0 ≤ 12) := by omega
    refine ⟨10, ?_⟩
    have s : spec_RoundsForAll.f 10 a0 = some (0, false) := by
      rcases h' with b | b <;> simp [spec_RoundsForAll.f, spec_l1In.f, b]
    have i : impl_RoundsForAll.f 10 a0 = some (0, false) := by
      rcases h' with b | b <;> simp [impl_RoundsForAll.f, impl_areSome.f, impl_within.f, b]
    simp [laws_FnExactRoundsForAll.f, s, i]

end Go.Proofs.Ytghefgfacafboaa.Pure
