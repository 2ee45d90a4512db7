/- The program's WindmillParty returns what the reference's returns, for all arguments. No condition. -/
import Derived.Test.YtghefgfacafboaaQ129
namespace Go.Proofs.Ytghefgfacafboaa.Pure
open Go.RowKit Go.Proofs.Ytghefgfacafboaa.Q Go.Proofs.YtghefgfacafboaaW.PrintWords Go.Proofs.YtghefgfacafboaaW.PrintLast

theorem windmillParty_in : ∀ d : Fin 6, laws_FnExactWindmillParty.f 100 (d.val : Int) = some true := by decide +kernel

theorem FnExactWindmillParty : laws_FnExactWindmillParty.Pure := by
  intro a0 _
  by_cases h : 0 ≤ a0 ∧ a0 ≤ 5
  · obtain ⟨h1, h2⟩ := h
    refine ⟨100, ?_⟩
    have q := windmillParty_in ⟨a0.toNat, by omega⟩
    have e2 : ((a0.toNat : Nat) : Int) = a0 := by omega
    simpa only [e2] using q
  · have h' : ¬ (0 ≤ a0) ∨ ¬ (a0 ≤ 5) := by omega
    refine ⟨10, ?_⟩
    have s : ∀ k, spec_WindmillParty.f k a0 = some (0, [], false) := by
      intro k
      rcases h' with b | b <;> simp [spec_WindmillParty.f, spec_l1In.f, b]
    have i : ∀ k, impl_WindmillParty.f k a0 = some (0, [], false) := by
      intro k
      rcases h' with b | b <;> simp [impl_WindmillParty.f, impl_within.f, b]
    simp [laws_FnExactWindmillParty.f, s, i, laws_eqParty.f, laws_eqPairS.f, laws_eqPairS.l0, laws_FnExactWindmillParty.j0, laws_FnExactWindmillParty.j1, laws_markParty.f, laws_heldParty.f, laws_markPairS.f, laws_markPairS.l0, laws_heldPairS.f, laws_heldPairS.l0]

end Go.Proofs.Ytghefgfacafboaa.Pure
