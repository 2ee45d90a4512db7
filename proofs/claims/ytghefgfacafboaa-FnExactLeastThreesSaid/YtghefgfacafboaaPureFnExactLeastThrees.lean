/- The program's LeastThrees returns what the reference's returns, for all arguments. No condition. -/
import Derived.Test.YtghefgfacafboaaQ9
namespace Go.Proofs.Ytghefgfacafboaa.Pure
open Go.RowKit Go.Proofs.Ytghefgfacafboaa.Q Go.Proofs.YtghefgfacafboaaW.PrintWords Go.Proofs.YtghefgfacafboaaW.PrintLast

theorem leastThrees_in : ∀ d : Fin 101, laws_FnExactLeastThrees.f (d.val : Int) = some true := by decide +kernel

theorem FnExactLeastThrees : laws_FnExactLeastThrees.Pure := by
  intro a0 _
  by_cases h : 0 ≤ a0 ∧ a0 ≤ 100
  · obtain ⟨h1, h2⟩ := h
    have q := leastThrees_in ⟨a0.toNat, by omega⟩
    have e2 : ((a0.toNat : Nat) : Int) = a0 := by omega
    simpa only [e2] using q
  · have h' : ¬ (0 ≤ a0) ∨ ¬ (a0 ≤ 100) := by omega
    rcases h' with b | b <;> simp [laws_FnExactLeastThrees.f, spec_LeastThrees.f, impl_LeastThrees.f, spec_l1In.f, impl_within.f, b]

end Go.Proofs.Ytghefgfacafboaa.Pure
