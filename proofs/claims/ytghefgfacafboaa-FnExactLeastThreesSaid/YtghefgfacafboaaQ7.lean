-- Written by wip/tools/gprint.py (the kit's print, with contracts of this session): Lean checks it.
import Derived.Test.YtghefgfacafboaaQ0
namespace Go.Proofs.Ytghefgfacafboaa.Q
open Go.RowKit Go.Proofs.YtghefgfacafboaaW.PrintWords Go.Proofs.YtghefgfacafboaaW.PrintLast Go.Proofs.YtghefgfacafboaaW.PrintMore
attribute [local go_sem] max2_int min2_int max_two min_two max_three min_three max_four min_four   -- for this text's walks alone
set_option linter.unusedVariables false
set_option linter.unusedSimpArgs false

/-! ### impl_leastOneKind: function 56 -/
def impl_leastOneKind.f (a0 : Int) : Option (Int) := if (Int.tmod a0 2) = 0 then (some (wrap64 (Int.tdiv (wrap64 ((wrap64 ((wrap64 (Int.tdiv a0 2)) * (wrap64 ((wrap64 (Int.tdiv a0 2)) - 1)))) * (wrap64 ((wrap64 (Int.tdiv a0 2)) - 2)))) 3))) else (if (Int.tmod a0 4) = 1 then (some (wrap64 (Int.tdiv (wrap64 ((wrap64 ((wrap64 (2 * (wrap64 (Int.tdiv a0 4)))) * (wrap64 ((wrap64 (Int.tdiv a0 4)) - 1)))) * (wrap64 ((wrap64 (4 * (wrap64 (Int.tdiv a0 4)))) + 1)))) 3))) else (some (wrap64 (Int.tdiv (wrap64 ((wrap64 ((wrap64 (2 * (wrap64 (Int.tdiv a0 4)))) * (wrap64 ((wrap64 (Int.tdiv a0 4)) + 1)))) * (wrap64 ((wrap64 (4 * (wrap64 (Int.tdiv a0 4)))) - 1)))) 3))))
set_option maxHeartbeats 8000000 in
set_option maxRecDepth 100000 in
theorem impl_leastOneKind.calls (a0 : Int) (r : Int) (w : World) (h : impl_leastOneKind.f a0 = some r) :
    Calls Try.prog 56 #[.int .i64 a0] w fun e w' => e = .returned (.int .i64 r) ∧ Drawn0 w w' := by
  have H : (if (Int.tmod a0 2) = 0 then (some (wrap64 (Int.tdiv (wrap64 ((wrap64 ((wrap64 (Int.tdiv a0 2)) * (wrap64 ((wrap64 (Int.tdiv a0 2)) - 1)))) * (wrap64 ((wrap64 (Int.tdiv a0 2)) - 2)))) 3))) else (if (Int.tmod a0 4) = 1 then (some (wrap64 (Int.tdiv (wrap64 ((wrap64 ((wrap64 (2 * (wrap64 (Int.tdiv a0 4)))) * (wrap64 ((wrap64 (Int.tdiv a0 4)) - 1)))) * (wrap64 ((wrap64 (4 * (wrap64 (Int.tdiv a0 4)))) + 1)))) 3))) else (some (wrap64 (Int.tdiv (wrap64 ((wrap64 ((wrap64 (2 * (wrap64 (Int.tdiv a0 4)))) * (wrap64 ((wrap64 (Int.tdiv a0 4)) + 1)))) * (wrap64 ((wrap64 (4 * (wrap64 (Int.tdiv a0 4)))) - 1)))) 3))))) = some r := h
  clear h
  by_cases c2 : (Int.tmod a0 2) = 0
  · rw [if_pos c2] at H
    have c2b0 : ((Int.tmod a0 2) == 0) = true := beq_iff_eq.mpr c2
    have c2b1 : ((Int.tmod a0 2) != 0) = false := bne_eq_false_iff_eq.mpr c2
    clear c2
    obtain rfl := Option.some.inj H
    go_enter Try.func56, Try.ntmps56
    go_wp2
    go_ret
    exact ⟨by first | rfl | (simp; done) | (simp [*]; done), by repeat (first | exact Drawn0.refl _ | apply Drawn0.step)⟩
  · rw [if_neg c2] at H
    have c2b0 : ((Int.tmod a0 2) == 0) = false := beq_eq_false_iff_ne.mpr c2
    have c2b1 : ((Int.tmod a0 2) != 0) = true := bne_iff_ne.mpr c2
    by_cases c3 : (Int.tmod a0 4) = 1
    · rw [if_pos c3] at H
      have c3b0 : ((Int.tmod a0 4) == 1) = true := beq_iff_eq.mpr c3
      have c3b1 : ((Int.tmod a0 4) != 1) = false := bne_eq_false_iff_eq.mpr c3
      clear c3
      obtain rfl := Option.some.inj H
      go_enter Try.func56, Try.ntmps56
      go_wp2
      go_ret
      exact ⟨by first | rfl | (simp; done) | (simp [*]; done), by repeat (first | exact Drawn0.refl _ | apply Drawn0.step)⟩
    · rw [if_neg c3] at H
      have c3b0 : ((Int.tmod a0 4) == 1) = false := beq_eq_false_iff_ne.mpr c3
      have c3b1 : ((Int.tmod a0 4) != 1) = true := bne_iff_ne.mpr c3
      obtain rfl := Option.some.inj H
      go_enter Try.func56, Try.ntmps56
      go_wp2
      go_ret
      exact ⟨by first | rfl | (simp; done) | (simp [*]; done), by repeat (first | exact Drawn0.refl _ | apply Drawn0.step)⟩

end Go.Proofs.Ytghefgfacafboaa.Q
