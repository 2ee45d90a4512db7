/- The program's PairParty returns what the reference's returns, for all arguments. No condition. -/
import Derived.Test.YtipblaifgpnebaaQ0
import Derived.Test.YtipblaifgpnebaaQ3
import Derived.Test.YtipblaifgpnebaaQ17
import Derived.Test.YtipblaifgpnebaaQ28
import Derived.Test.YtipblaifgpnebaaQ29
import Derived.Test.YtipblaifgpnebaaQ54
import Derived.Test.YtipblaifgpnebaaQ68
import Derived.Test.YtipblaifgpnebaaQ69
import Derived.Test.YtipblaifgpnebaaQ70
import Derived.Test.YtipblaifgpnebaaQ82
import Derived.Test.YtipblaifgpnebaaQ86
import Derived.Test.YtipblaifgpnebaaQ87
namespace Go.Proofs.Ytipblaifgpnebaa.Pure
open Go.RowKit Go.Proofs.YtipblaifgpnebaaW.PrintWords Go.Proofs.YtipblaifgpnebaaW.PrintLast
set_option linter.unusedVariables false
open Q

theorem pairParty_in : ∀ d : Fin 4, laws_FnExactPairParty.f 1000 ((d.val : Int) + 2) = some true := by decide +kernel

theorem FnExactPairParty : laws_FnExactPairParty.Pure := by
  intro a0 _
  by_cases h : 2 ≤ a0 ∧ a0 ≤ 5
  · obtain ⟨h1, h2⟩ := h
    refine ⟨1000, ?_⟩
    have q := pairParty_in ⟨(a0 - 2).toNat, by omega⟩
    have e2 : (((a0 - 2).toNat : Nat) : Int) + 2 = a0 := by omega
    simpa only [e2] using q
  · have h' : ¬ (2 ≤ a0) ∨ ¬ (a0 ≤ 5) := by omega
    refine ⟨10, ?_⟩
    have s : ∀ k, spec_PairParty.f k a0 = some (0, [], false) := by
      intro k
      rcases h' with b | b <;> simp [spec_PairParty.f, spec_l1In.f, b]
    have i : ∀ k, impl_PairParty.f k a0 = some (0, [], false) := by
      intro k
      rcases h' with b | b <;> simp [impl_PairParty.f, impl_within.f, b]
    simp [laws_FnExactPairParty.f, s, i, laws_eqParty.f, laws_eqPairS.f, laws_eqPairS.l0, laws_FnExactPairParty.j0, laws_FnExactPairParty.j1, laws_markParty.f, laws_heldParty.f, laws_markPairS.f, laws_markPairS.l0, laws_heldPairS.f, laws_heldPairS.l0]

end Go.Proofs.Ytipblaifgpnebaa.Pure
