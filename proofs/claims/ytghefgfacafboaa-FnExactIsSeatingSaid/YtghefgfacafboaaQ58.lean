-- Written by wip/tools/gprint.py (the kit's print, with contracts of this session): Lean checks it.
import Derived.Test.YtghefgfacafboaaQ0
namespace Go.Proofs.Ytghefgfacafboaa.Q
open Go.RowKit Go.Proofs.YtghefgfacafboaaW.PrintWords Go.Proofs.YtghefgfacafboaaW.PrintLast Go.Proofs.YtghefgfacafboaaW.PrintMore
attribute [local go_sem] max2_int min2_int max_two min_two max_three min_three max_four min_four   -- for this text's walks alone
set_option linter.unusedVariables false
set_option linter.unusedSimpArgs false

/-! ### spec_taStrange: function 73 -/
def spec_taStrange.l0 : Nat → List (List Bool) → List Int → Int → List Int → Int → Int → Option (Int)
 | 0, _, _, _, _, _, _ => none
 | k + 1, x0, x1, x5, x8, x9, x10 => if x10 < x9 then (if 0 ≤ x10 then (if x10 < (x8.length : Int) then (if 0 ≤ (rd x8 x10) then (if (rd x8 x10) < (x0.length : Int) then (if (x1.length : Int) = 0 then (none) else (if 0 ≤ (Int.tmod (wrap64 (x10 + 1)) (x1.length : Int)) then (if (Int.tmod (wrap64 (x10 + 1)) (x1.length : Int)) < (x1.length : Int) then (if 0 ≤ (rd x1 (Int.tmod (wrap64 (x10 + 1)) (x1.length : Int))) then (if (rd x1 (Int.tmod (wrap64 (x10 + 1)) (x1.length : Int))) < ((rd_L5 x0 (rd x8 x10)).length : Int) then (if (rdOf false (rd_L5 x0 (rd x8 x10)) (rd x1 (Int.tmod (wrap64 (x10 + 1)) (x1.length : Int))) = true) then (spec_taStrange.l0 k x0 x1 x5 x8 x9 (wrap64 (x10 + 1))) else (spec_taStrange.l0 k x0 x1 (wrap64 (x5 + 1)) x8 x9 (wrap64 (x10 + 1)))) else (none)) else (none)) else (none)) else (none))) else (none)) else (none)) else (none)) else (none)) else (some x5)
def spec_taStrange.f (k : Nat) (l0 : List (List Bool)) (l1 : List Int) : Option (Int) := spec_taStrange.l0 k l0 l1 0 l1 (l1.length : Int) 0
theorem spec_taStrange.mono_l : ∀ k, (∀ y0 y1 y2 y3 y4 y5, LeO (spec_taStrange.l0 k y0 y1 y2 y3 y4 y5) (spec_taStrange.l0 (k + 1) y0 y1 y2 y3 y4 y5))
 | 0 => fun _ _ _ _ _ _ r h => by simp [spec_taStrange.l0] at h
 | k + 1 => by
  have ih0 := spec_taStrange.mono_l k
  ·intro y0 y1 y2 y3 y4 y5
   unfold spec_taStrange.l0
   repeat' first
   | (with_reducible exact ih0 _ _ _ _ _ _)
   | (with_reducible exact LeO.refl _)
   | (with_reducible exact LeO.none _)
   | (with_reducible refine LeO.ite ?_ ?_)
   | (with_reducible refine LeO.bind ?_ (fun _ => ?_))
   | exact ih0 _ _ _ _ _ _
   | exact LeO.none _
   | refine LeO.ite ?_ ?_
   | refine LeO.bind ?_ (fun _ => ?_)
theorem spec_taStrange.mono : ∀ a0 a1 k, LeO (spec_taStrange.f k a0 a1) (spec_taStrange.f (k + 1) a0 a1) := by
 intro a0 a1 k
 have ih0 := spec_taStrange.mono_l k
 unfold spec_taStrange.f
 repeat' first
   | (with_reducible exact ih0 _ _ _ _ _ _)
   | (with_reducible exact LeO.refl _)
   | (with_reducible exact LeO.none _)
   | (with_reducible refine LeO.ite ?_ ?_)
   | (with_reducible refine LeO.bind ?_ (fun _ => ?_))
   | exact ih0 _ _ _ _ _ _
   | exact LeO.none _
   | refine LeO.ite ?_ ?_
   | refine LeO.bind ?_ (fun _ => ?_)
set_option maxHeartbeats 8000000 in
set_option maxRecDepth 100000 in
theorem spec_taStrange.calls (k : Nat) (A0 : Option Addr) (c0 : Nat) (l0 : List (List Bool)) (A1 : Option Addr) (c1 : Nat) (l1 : List Int) (r : Int) (w : World) (hr0 : Kd.C (Kd.slice 4 Kd.bool) w A0 l0.length l0) (hc0 : l0.length ≤ c0) (hr1 : Kd.C (Kd.int .i64) w A1 l1.length l1) (hc1 : l1.length ≤ c1) (h : spec_taStrange.f k l0 l1 = some r) :
  Calls Try.prog 73 #[.slice A0 l0.length c0, .slice A1 l1.length c1] w fun e w' => e = .returned (.int .i64 r) ∧ Drawn0 w w' := by
 have HR0 := Aside0.mk hr0
 have HC0 := Aside0.mk hc0
 clear hr0 hc0
 have HR1 := Aside0.mk hr1
 have HC1 := Aside0.mk hc1
 clear hr1 hc1
 have H : (spec_taStrange.l0 k l0 l1 0 l1 (l1.length : Int) 0) = some r := h
 clear h
 have H' := Aside0.mk H
 clear H
 go_enter Try.func73, Try.ntmps73
 go_wp2
 repeat (go_quiet (fail); try go_wp2)
 go_loopg [5, 10] k (fun kq v5 v10 w' => ∃ (x5_1 : Int) (x10_1 : Int), v5 = .int .i64 x5_1 ∧ v10 = .int .i64 x10_1 ∧ Aside0 (spec_taStrange.l0 kq l0 l1 x5_1 l1 (l1.length : Int) x10_1 = some r) ∧ Aside0 (kq ≤ k) ∧ Drawn0 w w')
 case atStart => exact ⟨(0), (0), (by first | rfl | (simp; done) | (simp [*]; done)), (by first | rfl | (simp; done) | (simp [*]; done)), H', ⟨Nat.le_refl _⟩, by repeat (first | exact Drawn0.refl _ | apply Drawn0.step)⟩
 case round =>
  clear H'
  try clear c1
  try clear p2
  obtain ⟨x5_1, x10_1, rfl, rfl, HA, HK1, ⟨m1, rfl⟩⟩ := hrel
  cases gk with
  | zero => exact absurd HA.out (by simp [spec_taStrange.l0])
  | succ k1 =>
   have H := HA.out
   clear HA
   simp only [spec_taStrange.l0] at H
   by_cases c3 : x10_1 < (l1.length : Int)
   ·rw [if_pos c3] at H
    have c3b0 : decide (x10_1 < (l1.length : Int)) = true := decide_eq_true c3
    clear c3
    by_cases c4 : 0 ≤ x10_1
    ·rw [if_pos c4] at H
     have c4b0 : decide (0 ≤ x10_1) = true := decide_eq_true c4
     clear c4
     by_cases c5 : x10_1 < (l1.length : Int)
     ·rw [if_pos c5] at H
      have c5b0 : decide (x10_1 < (l1.length : Int)) = true := decide_eq_true c5
      clear c5
      by_cases c6 : 0 ≤ (rd l1 x10_1)
      ·rw [if_pos c6] at H
       have c6b0 : decide (0 ≤ (rd l1 x10_1)) = true := decide_eq_true c6
       clear c6
       by_cases c7 : (rd l1 x10_1) < (l0.length : Int)
       ·rw [if_pos c7] at H
        have c7b0 : decide ((rd l1 x10_1) < (l0.length : Int)) = true := decide_eq_true c7
        clear c7
        by_cases c8 : (l1.length : Int) = 0
        ·rw [if_pos c8] at H
         exact absurd H (by simp)
        ·rw [if_neg c8] at H
         have c8b0 : ((l1.length : Int) == 0) = false := beq_eq_false_iff_ne.mpr c8
         have c8b1 : ((l1.length : Int) != 0) = true := bne_iff_ne.mpr c8
         have c8b2 : ¬ (l1 = []) := fun h_ => c8 (by rw [h_]; rfl)
         obtain ⟨ji9, hji9⟩ : ∃ j_ : Int, (Int.tmod (wrap64 (x10_1 + 1)) (l1.length : Int)) = j_ := ⟨_, rfl⟩
         replace H : (if 0 ≤ (ji9) then (if (ji9) < (l1.length : Int) then (if 0 ≤ (rd l1 (ji9)) then (if (rd l1 (ji9)) < ((rd_L5 l0 (rd l1 x10_1)).length : Int) then (if (rdOf false (rd_L5 l0 (rd l1 x10_1)) (rd l1 (ji9)) = true) then (spec_taStrange.l0 k1 l0 l1 x5_1 l1 (l1.length : Int) (wrap64 (x10_1 + 1))) else (spec_taStrange.l0 k1 l0 l1 (wrap64 (x5_1 + 1)) l1 (l1.length : Int) (wrap64 (x10_1 + 1)))) else (none)) else (none)) else (none)) else (none)) = some r := by first | (rw [hji9] at H; exact H) | (simp only [hji9] at H ⊢; exact H)
         by_cases c10 : 0 ≤ (ji9)
         ·rw [if_pos c10] at H
          have c10b0 : decide (0 ≤ (ji9)) = true := decide_eq_true c10
          clear c10
          by_cases c11 : (ji9) < (l1.length : Int)
          ·rw [if_pos c11] at H
           have c11b0 : decide ((ji9) < (l1.length : Int)) = true := decide_eq_true c11
           clear c11
           by_cases c12 : 0 ≤ (rd l1 (ji9))
           ·rw [if_pos c12] at H
            have c12b0 : decide (0 ≤ (rd l1 (ji9))) = true := decide_eq_true c12
            clear c12
            by_cases c13 : (rd l1 (ji9)) < ((rd_L5 l0 (rd l1 x10_1)).length : Int)
            ·rw [if_pos c13] at H
             have c13b0 : decide ((rd l1 (ji9)) < ((rd_L5 l0 (rd l1 x10_1)).length : Int)) = true := decide_eq_true c13
             clear c13
             obtain ⟨bq14, hbq14⟩ : ∃ b_ : Bool, b_ = (rdOf false (rd_L5 l0 (rd l1 x10_1)) (rd l1 (ji9))) := ⟨_, rfl⟩
             replace H : (if (bq14 = true) then (spec_taStrange.l0 k1 l0 l1 x5_1 l1 (l1.length : Int) (wrap64 (x10_1 + 1))) else (spec_taStrange.l0 k1 l0 l1 (wrap64 (x5_1 + 1)) l1 (l1.length : Int) (wrap64 (x10_1 + 1)))) = some r := by rw [← hbq14] at H; exact H
             have Nbq14 := Aside0.mk hbq14
             clear hbq14
             by_cases c15 : (bq14 = true)
             ·subst c15
              have H1 : (spec_taStrange.l0 k1 l0 l1 x5_1 l1 (l1.length : Int) (wrap64 (x10_1 + 1))) = some r := by rw [if_pos rfl] at H; exact H
              clear H
              have H := H1
              clear H1
              have H' := Aside0.mk H
              clear H
              have p296 : 0 ≤ (x10_1 : Int) := of_decide_eq_true (by first | (with_reducible assumption) | assumption)
              have q296 : x10_1 < (l1.length : Int) := of_decide_eq_true (by first | (with_reducible assumption) | assumption)
              obtain ⟨ad296, e296, hx296_0⟩ := Kd.at_int HR1.out x10_1 p296 q296
              cases e296
              replace p296 := eq_true p296
              replace q296 := eq_true q296
              have p297 : 0 ≤ ((rd l1 x10_1) : Int) := of_decide_eq_true (by first | (with_reducible assumption) | assumption)
              have q297 : (rd l1 x10_1) < (l0.length : Int) := of_decide_eq_true (by first | (with_reducible assumption) | assumption)
              obtain ⟨ad297, A297_0, c297_0, e297, hx297_0, hl297_0, hi297_0⟩ := at_L5 HR0.out (rd l1 x10_1) p297 q297
              cases e297
              have HR297_0 := Aside0.mk hi297_0
              have HC297_0 := Aside0.mk hl297_0
              clear hi297_0 hl297_0
              replace p297 := eq_true p297
              replace q297 := eq_true q297
              have p298 : 0 ≤ ((ji9) : Int) := of_decide_eq_true (by first | (with_reducible assumption) | assumption)
              have q298 : (ji9) < (l1.length : Int) := of_decide_eq_true (by first | (with_reducible assumption) | assumption)
              obtain ⟨ad298, e298, hx298_0⟩ := Kd.at_int HR1.out (ji9) p298 q298
              obtain rfl : ad296 = ad298 := (by injection e298)
              replace p298 := eq_true p298
              replace q298 := eq_true q298
              have p299 : 0 ≤ ((rd l1 (ji9)) : Int) := of_decide_eq_true (by first | (with_reducible assumption) | assumption)
              have q299 : (rd l1 (ji9)) < ((rd_L5 l0 (rd l1 x10_1)).length : Int) := of_decide_eq_true (by first | (with_reducible assumption) | assumption)
              obtain ⟨ad299, e299, hx299_0⟩ := Kd.at_bool HR297_0.out (rd l1 (ji9)) p299 q299
              (try rw [← Nbq14.out] at hx299_0)
              cases e299
              replace p299 := eq_true p299
              replace q299 := eq_true q299
              go_wp2
              repeat (go_quiet (fail); try go_wp2)
              go_roundg k1
              case measure => have := HK1.out; omega
              case rel => exact ⟨(x5_1), (wrap64 (x10_1 + 1)), (by first | rfl | (simp; done) | (simp [*]; done)), (by first | rfl | (simp; done) | (simp [*]; done)), H', ⟨by have := HK1.out; omega⟩, by repeat (first | exact Drawn0.refl _ | apply Drawn0.step)⟩
             ·replace c15 := Bool.eq_false_iff.mpr c15
              subst c15
              have H1 : (spec_taStrange.l0 k1 l0 l1 (wrap64 (x5_1 + 1)) l1 (l1.length : Int) (wrap64 (x10_1 + 1))) = some r := by rw [if_neg (show ¬ (false = true) by decide)] at H; exact H
              clear H
              have H := H1
              clear H1
              have H' := Aside0.mk H
              clear H
              have p296 : 0 ≤ (x10_1 : Int) := of_decide_eq_true (by first | (with_reducible assumption) | assumption)
              have q296 : x10_1 < (l1.length : Int) := of_decide_eq_true (by first | (with_reducible assumption) | assumption)
              obtain ⟨ad296, e296, hx296_0⟩ := Kd.at_int HR1.out x10_1 p296 q296
              cases e296
              replace p296 := eq_true p296
              replace q296 := eq_true q296
              have p297 : 0 ≤ ((rd l1 x10_1) : Int) := of_decide_eq_true (by first | (with_reducible assumption) | assumption)
              have q297 : (rd l1 x10_1) < (l0.length : Int) := of_decide_eq_true (by first | (with_reducible assumption) | assumption)
              obtain ⟨ad297, A297_0, c297_0, e297, hx297_0, hl297_0, hi297_0⟩ := at_L5 HR0.out (rd l1 x10_1) p297 q297
              cases e297
              have HR297_0 := Aside0.mk hi297_0
              have HC297_0 := Aside0.mk hl297_0
              clear hi297_0 hl297_0
              replace p297 := eq_true p297
              replace q297 := eq_true q297
              have p298 : 0 ≤ ((ji9) : Int) := of_decide_eq_true (by first | (with_reducible assumption) | assumption)
              have q298 : (ji9) < (l1.length : Int) := of_decide_eq_true (by first | (with_reducible assumption) | assumption)
              obtain ⟨ad298, e298, hx298_0⟩ := Kd.at_int HR1.out (ji9) p298 q298
              obtain rfl : ad296 = ad298 := (by injection e298)
              replace p298 := eq_true p298
              replace q298 := eq_true q298
              have p299 : 0 ≤ ((rd l1 (ji9)) : Int) := of_decide_eq_true (by first | (with_reducible assumption) | assumption)
              have q299 : (rd l1 (ji9)) < ((rd_L5 l0 (rd l1 x10_1)).length : Int) := of_decide_eq_true (by first | (with_reducible assumption) | assumption)
              obtain ⟨ad299, e299, hx299_0⟩ := Kd.at_bool HR297_0.out (rd l1 (ji9)) p299 q299
              (try rw [← Nbq14.out] at hx299_0)
              cases e299
              replace p299 := eq_true p299
              replace q299 := eq_true q299
              go_wp2
              repeat (go_quiet (fail); try go_wp2)
              go_roundg k1
              case measure => have := HK1.out; omega
              case rel => exact ⟨(wrap64 (x5_1 + 1)), (wrap64 (x10_1 + 1)), (by first | rfl | (simp; done) | (simp [*]; done)), (by first | rfl | (simp; done) | (simp [*]; done)), H', ⟨by have := HK1.out; omega⟩, by repeat (first | exact Drawn0.refl _ | apply Drawn0.step)⟩
            ·rw [if_neg c13] at H
             exact absurd H (by simp)
           ·rw [if_neg c12] at H
            exact absurd H (by simp)
          ·rw [if_neg c11] at H
           exact absurd H (by simp)
         ·rw [if_neg c10] at H
          exact absurd H (by simp)
       ·rw [if_neg c7] at H
        exact absurd H (by simp)
      ·rw [if_neg c6] at H
       exact absurd H (by simp)
     ·rw [if_neg c5] at H
      exact absurd H (by simp)
    ·rw [if_neg c4] at H
     exact absurd H (by simp)
   ·rw [if_neg c3] at H
    have c3b0 : decide (x10_1 < (l1.length : Int)) = false := decide_eq_false c3
    clear c3
    obtain rfl := Option.some.inj H
    go_wp2
    repeat (go_quiet (fail); try go_wp2)
    go_ret
    exact ⟨by first | rfl | (simp; done) | (simp [*]; done), by repeat (first | exact Drawn0.refl _ | apply Drawn0.step)⟩

end Go.Proofs.Ytghefgfacafboaa.Q
