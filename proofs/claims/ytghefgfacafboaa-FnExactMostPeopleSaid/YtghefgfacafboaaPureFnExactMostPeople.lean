/- The program's MostPeople returns what the reference's returns, for all arguments. No condition. -/
import Derived.Test.YtghefgfacafboaaQ5
namespace Go.Proofs.Ytghefgfacafboaa.Pure
open Go.RowKit Go.Proofs.Ytghefgfacafboaa.Q Go.Proofs.YtghefgfacafboaaW.PrintWords Go.Proofs.YtghefgfacafboaaW.PrintLast

theorem mostPeople_in : ∀ d : Fin 5, ∀ k : Fin 6, laws_FnExactMostPeople.f 20 ((d.val : Int) + 2) (k.val : Int) = some true := by decide +kernel

theorem FnExactMostPeople : laws_FnExactMostPeople.Pure := by
  intro a0 a1 _ _
  refine ⟨20, ?_⟩
  by_cases h : 2 ≤ a0 ∧ a0 ≤ 6 ∧ 0 ≤ a1 ∧ a1 ≤ 5
  · obtain ⟨h1, h2, h3, h4⟩ := h
    have q := mostPeople_in ⟨(a0 - 2).toNat, by omega⟩ ⟨a1.toNat, by omega⟩
    have e1 : (((a0 - 2).toNat : Nat) : Int) + 2 = a0 := by omega
    have e2 : ((a1.toNat : Nat) : Int) = a1 := by omega
    simpa only [e1, e2] using q
  · have h' : ¬ (2 ≤ a0) ∨ ¬ (a0 ≤ 6) ∨ ¬ (0 ≤ a1) ∨ ¬ (a1 ≤ 5) := by omega
    have s : spec_MostPeople.f 20 a0 a1 = some (0, false) := by
      rcases h' with b | b | b | b <;> by_cases c : 2 ≤ a0 <;> simp [spec_MostPeople.f, spec_l1In.f, spec_MostPeople.j0, b, c] <;> (by_cases d : a0 ≤ 6 <;> simp [spec_MostPeople.j0, b, c, d])
    have i : impl_MostPeople.f 20 a0 a1 = some (0, false) := by
      rcases h' with b | b | b | b <;> by_cases c : 2 ≤ a0 <;> simp [impl_MostPeople.f, impl_within.f, impl_MostPeople.j0, b, c] <;> (by_cases d : a0 ≤ 6 <;> simp [impl_MostPeople.j0, b, c, d])
    simp [laws_FnExactMostPeople.f, s, i]

end Go.Proofs.Ytghefgfacafboaa.Pure
