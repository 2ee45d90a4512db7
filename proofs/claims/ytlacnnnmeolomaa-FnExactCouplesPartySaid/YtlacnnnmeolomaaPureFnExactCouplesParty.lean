/- The program's CouplesParty returns what the reference's returns, for all arguments. No condition. -/
import Derived.Test.YtlacnnnmeolomaaQ0
import Derived.Test.YtlacnnnmeolomaaQ1
import Derived.Test.YtlacnnnmeolomaaQ4
import Derived.Test.YtlacnnnmeolomaaQ5
import Derived.Test.YtlacnnnmeolomaaQ9
import Derived.Test.YtlacnnnmeolomaaQ11
import Derived.Test.YtlacnnnmeolomaaQ12
import Derived.Test.YtlacnnnmeolomaaQ13
import Derived.Test.YtlacnnnmeolomaaQ14
import Derived.Test.YtlacnnnmeolomaaQ15
import Derived.Test.YtlacnnnmeolomaaQ16
import Derived.Test.YtlacnnnmeolomaaQ17
namespace Go.Proofs.Ytlacnnnmeolomaa.Pure
open Go.RowKit Go.Proofs.YtlacnnnmeolomaaW.PrintWords Go.Proofs.YtlacnnnmeolomaaW.PrintLast
set_option linter.unusedVariables false
open Q

theorem couplesParty_in : ∀ d : Fin 6, laws_FnExactCouplesParty.f 1000 ((d.val : Int) + 1) = some true := by decide +kernel

theorem FnExactCouplesParty : laws_FnExactCouplesParty.Pure := by
  intro a0 _
  by_cases h : 1 ≤ a0 ∧ a0 ≤ 6
  · obtain ⟨h1, h2⟩ := h
    refine ⟨1000, ?_⟩
    have q := couplesParty_in ⟨(a0 - 1).toNat, by omega⟩
    have e2 : (((a0 - 1).toNat : Nat) : Int) + 1 = a0 := by omega
    simpa only [e2] using q
  · have h' : ¬ (1 ≤ a0) ∨ ¬ (a0 ≤ 6) := by omega
    refine ⟨10, ?_⟩
    have s : ∀ k, spec_CouplesParty.f k a0 = some (0, [], false) := by
      intro k
      rcases h' with b | b <;> simp [spec_CouplesParty.f, spec_l1In.f, b]
    have i : ∀ k, impl_CouplesParty.f k a0 = some (0, [], false) := by
      intro k
      rcases h' with b | b <;> simp [impl_CouplesParty.f, impl_within.f, b]
    simp [laws_FnExactCouplesParty.f, s, i, laws_eqParty.f, laws_eqPairS.f, laws_eqPairS.l0, laws_FnExactCouplesParty.j0, laws_FnExactCouplesParty.j1, laws_markParty.f, laws_heldParty.f, laws_markPairS.f, laws_markPairS.l0, laws_heldPairS.f, laws_heldPairS.l0]

end Go.Proofs.Ytlacnnnmeolomaa.Pure
