/- The program's RoundCalls returns what the reference's returns, for all arguments. No condition. -/
import Derived.Test.YtghefgfacafboaaQ39
namespace Go.Proofs.Ytghefgfacafboaa.Pure
open Go.RowKit Go.Proofs.Ytghefgfacafboaa.Q Go.Proofs.YtghefgfacafboaaW.PrintWords Go.Proofs.YtghefgfacafboaaW.PrintLast

theorem roundCalls_in : ∀ d : Fin 4, laws_FnExactRoundCalls.f 100 (d.val : Int) = some true := by decide +kernel

theorem FnExactRoundCalls : laws_FnExactRoundCalls.Pure := by
  intro a0 _
  by_cases h : 0 ≤ a0 ∧ a0 ≤ 3
  · obtain ⟨h1, h2⟩ := h
    refine ⟨100, ?_⟩
    have q := roundCalls_in ⟨a0.toNat, by omega⟩
    have e2 : ((a0.toNat : Nat) : Int) = a0 := by omega
    simpa only [e2] using q
  · have h' : ¬ (0 ≤ a0) ∨ ¬ (a0 ≤ 3) := by omega
    refine ⟨10, ?_⟩
    have s : ∀ k, spec_RoundCalls.f k a0 = some ([], false) := by
      intro k
      rcases h' with b | b <;> simp [spec_RoundCalls.f, spec_l1In.f, b]
    have i : ∀ k, impl_RoundCalls.f k a0 = some ([], false) := by
      intro k
      rcases h' with b | b <;> simp [impl_RoundCalls.f, impl_within.f, b]
    simp [laws_FnExactRoundCalls.f, s, i, laws_eqPairS.f, laws_eqPairS.l0, laws_FnExactRoundCalls.j0, laws_FnExactRoundCalls.j1, laws_markPairS.f, laws_markPairS.l0, laws_heldPairS.f, laws_heldPairS.l0]

end Go.Proofs.Ytghefgfacafboaa.Pure
