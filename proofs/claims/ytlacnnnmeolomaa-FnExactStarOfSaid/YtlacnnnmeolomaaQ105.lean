-- Written by wip/tools/gprint.py (the kit's print, with contracts of this session): Lean checks it.
import Derived.Test.YtlacnnnmeolomaaQ0
import Derived.Test.YtlacnnnmeolomaaQ20
import Derived.Test.YtlacnnnmeolomaaQ22
namespace Go.Proofs.Ytlacnnnmeolomaa.Q
open Go.RowKit Go.Proofs.YtlacnnnmeolomaaW.PrintWords Go.Proofs.YtlacnnnmeolomaaW.PrintLast Go.Proofs.YtlacnnnmeolomaaW.PrintMore
attribute [local go_sem] max2_int min2_int max_two min_two max_three min_three max_four min_four   -- for this text's walks alone
set_option linter.unusedVariables false
set_option linter.unusedSimpArgs false

/-! ### spec_StarOf: function 38 -/
mutual
def spec_StarOf.l0 : Nat → List (List Int) → List (List Int) → Int → Int → Option (Int × Bool)
  | 0, _, _, _, _ => none
  | k + 1, x0, x12, x13, x14 => if x14 < x13 then (if 0 ≤ x14 then (if x14 < (x12.length : Int) then (spec_StarOf.l1 k x0 x14 (((rd_L5 x12 x14).length : Int) == 0) x12 x13 x14 x0 (x0.length : Int) 0) else (none)) else (none)) else (some (0, false))
def spec_StarOf.l1 : Nat → List (List Int) → Int → Bool → List (List Int) → Int → Int → List (List Int) → Int → Int → Option (Int × Bool)
  | 0, _, _, _, _, _, _, _, _, _ => none
  | k + 1, x0, x4, x6, x12, x13, x14, x22, x23, x24 => if x24 < x23 then (if 0 ≤ x24 then (if x24 < (x22.length : Int) then (if x6 = true then (if x24 = x4 then (spec_StarOf.l1 k x0 x4 true x12 x13 x14 x22 x23 (wrap64 (x24 + 1))) else ((spec_l1Has.f k (rd_L5 x22 x24) x4).bind fun t654 => (spec_StarOf.l1 k x0 x4 t654 x12 x13 x14 x22 x23 (wrap64 (x24 + 1))))) else (spec_StarOf.l1 k x0 x4 false x12 x13 x14 x22 x23 (wrap64 (x24 + 1)))) else (none)) else (none)) else (if x6 = true then (some (x4, true)) else (spec_StarOf.l0 k x0 x12 x13 (wrap64 (x14 + 1))))
end
def spec_StarOf.f (k : Nat) (l0 : List (List Int)) : Option (Int × Bool) := (spec_haFame.f k l0).bind fun t651 => (if t651 = true then (spec_StarOf.l0 k l0 l0 (l0.length : Int) 0) else (some (0, false)))
theorem spec_StarOf.mono_l : ∀ k, (∀ y0 y1 y2 y3, LeO (spec_StarOf.l0 k y0 y1 y2 y3) (spec_StarOf.l0 (k + 1) y0 y1 y2 y3)) ∧ (∀ y0 y1 y2 y3 y4 y5 y6 y7 y8, LeO (spec_StarOf.l1 k y0 y1 y2 y3 y4 y5 y6 y7 y8) (spec_StarOf.l1 (k + 1) y0 y1 y2 y3 y4 y5 y6 y7 y8))
  | 0 => ⟨fun _ _ _ _ r h => by simp [spec_StarOf.l0] at h, fun _ _ _ _ _ _ _ _ _ r h => by simp [spec_StarOf.l1] at h⟩
  | k + 1 => by
    obtain ⟨ih0, ih1⟩ := spec_StarOf.mono_l k
    refine ⟨?_, ?_⟩
    · intro y0 y1 y2 y3
      unfold spec_StarOf.l0
      repeat' first
      | (with_reducible exact ih0 _ _ _ _)
      | (with_reducible exact ih1 _ _ _ _ _ _ _ _ _)
      | (with_reducible exact spec_haFame.mono _ _)
      | (with_reducible exact spec_l1Has.mono _ _ _)
      | (with_reducible exact LeO.refl _)
      | (with_reducible exact LeO.none _)
      | (with_reducible refine LeO.ite ?_ ?_)
      | (with_reducible refine LeO.bind ?_ (fun _ => ?_))
      | exact ih0 _ _ _ _
      | exact ih1 _ _ _ _ _ _ _ _ _
      | exact spec_haFame.mono _ _
      | exact spec_l1Has.mono _ _ _
      | exact LeO.none _
      | refine LeO.ite ?_ ?_
      | refine LeO.bind ?_ (fun _ => ?_)
    · intro y0 y1 y2 y3 y4 y5 y6 y7 y8
      unfold spec_StarOf.l1
      repeat' first
      | (with_reducible exact ih0 _ _ _ _)
      | (with_reducible exact ih1 _ _ _ _ _ _ _ _ _)
      | (with_reducible exact spec_haFame.mono _ _)
      | (with_reducible exact spec_l1Has.mono _ _ _)
      | (with_reducible exact LeO.refl _)
      | (with_reducible exact LeO.none _)
      | (with_reducible refine LeO.ite ?_ ?_)
      | (with_reducible refine LeO.bind ?_ (fun _ => ?_))
      | exact ih0 _ _ _ _
      | exact ih1 _ _ _ _ _ _ _ _ _
      | exact spec_haFame.mono _ _
      | exact spec_l1Has.mono _ _ _
      | exact LeO.none _
      | refine LeO.ite ?_ ?_
      | refine LeO.bind ?_ (fun _ => ?_)
theorem spec_StarOf.mono : ∀ a0 k, LeO (spec_StarOf.f k a0) (spec_StarOf.f (k + 1) a0) := by
  intro a0 k
  obtain ⟨ih0, ih1⟩ := spec_StarOf.mono_l k
  unfold spec_StarOf.f
  repeat' first
      | (with_reducible exact ih0 _ _ _ _)
      | (with_reducible exact ih1 _ _ _ _ _ _ _ _ _)
      | (with_reducible exact spec_haFame.mono _ _)
      | (with_reducible exact spec_l1Has.mono _ _ _)
      | (with_reducible exact LeO.refl _)
      | (with_reducible exact LeO.none _)
      | (with_reducible refine LeO.ite ?_ ?_)
      | (with_reducible refine LeO.bind ?_ (fun _ => ?_))
      | exact ih0 _ _ _ _
      | exact ih1 _ _ _ _ _ _ _ _ _
      | exact spec_haFame.mono _ _
      | exact spec_l1Has.mono _ _ _
      | exact LeO.none _
      | refine LeO.ite ?_ ?_
      | refine LeO.bind ?_ (fun _ => ?_)
set_option maxHeartbeats 8000000 in
set_option maxRecDepth 100000 in
theorem spec_StarOf.calls (k : Nat) (A0 : Option Addr) (c0 : Nat) (l0 : List (List Int)) (r1 : Int) (r2 : Bool) (w : World) (hr0 : Kd.C (Kd.slice 3 (Kd.int .i64)) w A0 l0.length l0) (hc0 : l0.length ≤ c0) (h : spec_StarOf.f k l0 = some (r1, r2)) :
    Calls Try.prog 38 #[.slice A0 l0.length c0] w fun e w' => e = .returned (.tuple #[.int .i64 r1, .bool r2]) ∧ Drawn0 w w' := by
  have HR0 := Aside0.mk hr0
  have HC0 := Aside0.mk hc0
  clear hr0 hc0
  have H : ((spec_haFame.f k l0).bind fun t651 => (if t651 = true then (spec_StarOf.l0 k l0 l0 (l0.length : Int) 0) else (some (0, false)))) = some (r1, r2) := h
  clear h
  replace H := Option.bind_eq_some_iff.mp H
  obtain ⟨t651, A20, H⟩ := H
  replace H : (if t651 = true then (spec_StarOf.l0 k l0 l0 (l0.length : Int) 0) else (some (0, false))) = some (r1, r2) := H
  have A2 := Aside0.mk A20
  clear A20
  by_cases c3 : t651 = true
  · subst c3
    have H1 : (spec_StarOf.l0 k l0 l0 (l0.length : Int) 0) = some (r1, r2) := by rw [if_pos rfl] at H; exact H
    clear H
    have H := H1
    clear H1
    have H' := Aside0.mk H
    clear H
    go_enter Try.func38, Try.ntmps38
    go_wp2_with (first | ((with_reducible refine gate_callee (f := 64) rfl ?_); refine goesL_ (some 10) rfl rfl Try.func64 (by kernel_rfl) rfl #[.slice A0 l0.length c0] rfl (by (try simp only [List.map_toArray, List.map_cons, List.map_nil]); first | done | rfl | (simp only [List.length_drop, List.length_take]; rfl)) ?_; (with_reducible refine (spec_haFame.calls k _ _ l0 true _ ?side1 ?side2 A2.out).mono ?_); (case side1 => repeat (first | exact HR0.out | (with_reducible refine Kd.C_alloc ?_ _) | (with_reducible refine Kd.C_drewN ?_ _) | (with_reducible refine Kd.C_drew ?_))); (case side2 => exact HC0.out); rintro e w' ⟨rfl, ⟨nd, rfl⟩⟩; refine ⟨_, rfl, ?_⟩))
    go_loopg [14] k (fun kq v14 w' => ∃ (x14_1 : Int), v14 = .int .i64 x14_1 ∧ Aside0 (spec_StarOf.l0 kq l0 l0 (l0.length : Int) x14_1 = some (r1, r2)) ∧ Aside0 (kq ≤ k) ∧ Drawn0 w w')
    case atStart => exact ⟨(0), (by first | rfl | (simp; done) | (simp [*]; done)), H', ⟨Nat.le_refl _⟩, by repeat (first | exact Drawn0.refl _ | apply Drawn0.step)⟩
    case round =>
      clear H'
      try clear p2
      try clear c3
      obtain ⟨x14_1, rfl, HA, HK1, ⟨m1, rfl⟩⟩ := hrel
      cases gk with
      | zero => exact absurd HA.out (by simp [spec_StarOf.l0])
      | succ k1 =>
        have H := HA.out
        clear HA
        simp only [spec_StarOf.l0] at H
        by_cases c4 : x14_1 < (l0.length : Int)
        · rw [if_pos c4] at H
          have c4b0 : decide (x14_1 < (l0.length : Int)) = true := decide_eq_true c4
          clear c4
          by_cases c5 : 0 ≤ x14_1
          · rw [if_pos c5] at H
            have c5b0 : decide (0 ≤ x14_1) = true := decide_eq_true c5
            clear c5
            by_cases c6 : x14_1 < (l0.length : Int)
            · rw [if_pos c6] at H
              have c6b0 : decide (x14_1 < (l0.length : Int)) = true := decide_eq_true c6
              clear c6
              have H' := Aside0.mk H
              clear H
              have p652 : 0 ≤ (x14_1 : Int) := of_decide_eq_true (by first | (with_reducible assumption) | assumption)
              have q652 : x14_1 < (l0.length : Int) := of_decide_eq_true (by first | (with_reducible assumption) | assumption)
              obtain ⟨ad652, A652_0, c652_0, e652, hx652_0, hl652_0, hi652_0⟩ := at_L5 HR0.out x14_1 p652 q652
              cases e652
              have HR652_0 := Aside0.mk hi652_0
              have HC652_0 := Aside0.mk hl652_0
              clear hi652_0 hl652_0
              replace p652 := eq_true p652
              replace q652 := eq_true q652
              go_wp2
              go_loopg [6, 24] k1 (fun kq v6 v24 w' => ∃ (x6_2 : Bool) (x24_2 : Int), v6 = .bool x6_2 ∧ v24 = .int .i64 x24_2 ∧ Aside0 (spec_StarOf.l1 kq l0 x14_1 x6_2 l0 (l0.length : Int) x14_1 l0 (l0.length : Int) x24_2 = some (r1, r2)) ∧ Aside0 (kq ≤ k1) ∧ Drawn0 w w')
              case atStart => exact ⟨((((rd_L5 l0 x14_1).length : Int) == 0)), (0), (by first | rfl | (simp; done) | (simp [*]; done)), (by first | rfl | (simp; done) | (simp [*]; done)), H', ⟨Nat.le_refl _⟩, by repeat (first | exact Drawn0.refl _ | apply Drawn0.step)⟩
              case round =>
                clear H'
                try clear p2
                try clear c3
                try clear c4
                try clear c4b0
                try clear c5
                try clear c5b0
                try clear c6
                try clear c6b0
                try clear p6
                try clear q6
                try clear hx6
                try clear hx652_0
                try clear p2
                try clear p652
                try clear q652
                obtain ⟨x6_2, x24_2, rfl, rfl, HA, HK2, ⟨m2, rfl⟩⟩ := hrel
                cases gk with
                | zero => exact absurd HA.out (by simp [spec_StarOf.l1])
                | succ k2 =>
                  have H := HA.out
                  clear HA
                  simp only [spec_StarOf.l1] at H
                  by_cases c7 : x24_2 < (l0.length : Int)
                  · rw [if_pos c7] at H
                    have c7b0 : decide (x24_2 < (l0.length : Int)) = true := decide_eq_true c7
                    clear c7
                    by_cases c8 : 0 ≤ x24_2
                    · rw [if_pos c8] at H
                      have c8b0 : decide (0 ≤ x24_2) = true := decide_eq_true c8
                      clear c8
                      by_cases c9 : x24_2 < (l0.length : Int)
                      · rw [if_pos c9] at H
                        have c9b0 : decide (x24_2 < (l0.length : Int)) = true := decide_eq_true c9
                        clear c9
                        by_cases c10 : x6_2 = true
                        · subst c10
                          have H1 : (if x24_2 = x14_1 then (spec_StarOf.l1 k2 l0 x14_1 true l0 (l0.length : Int) x14_1 l0 (l0.length : Int) (wrap64 (x24_2 + 1))) else ((spec_l1Has.f k2 (rd_L5 l0 x24_2) x14_1).bind fun t654 => (spec_StarOf.l1 k2 l0 x14_1 t654 l0 (l0.length : Int) x14_1 l0 (l0.length : Int) (wrap64 (x24_2 + 1))))) = some (r1, r2) := by rw [if_pos rfl] at H; exact H
                          clear H
                          have H := H1
                          clear H1
                          by_cases c11 : x24_2 = x14_1
                          · rw [if_pos c11] at H
                            have c11b0 : (x24_2 == x14_1) = true := beq_iff_eq.mpr c11
                            have c11b1 : (x24_2 != x14_1) = false := bne_eq_false_iff_eq.mpr c11
                            clear c11
                            have H' := Aside0.mk H
                            clear H
                            have p653 : 0 ≤ (x24_2 : Int) := of_decide_eq_true (by first | (with_reducible assumption) | assumption)
                            have q653 : x24_2 < (l0.length : Int) := of_decide_eq_true (by first | (with_reducible assumption) | assumption)
                            obtain ⟨ad653, A653_0, c653_0, e653, hx653_0, hl653_0, hi653_0⟩ := at_L5 HR0.out x24_2 p653 q653
                            obtain rfl : ad652 = ad653 := (by injection e653)
                            have HR653_0 := Aside0.mk hi653_0
                            have HC653_0 := Aside0.mk hl653_0
                            clear hi653_0 hl653_0
                            replace p653 := eq_true p653
                            replace q653 := eq_true q653
                            go_wp2
                            go_roundg k2
                            case measure => have := HK1.out; have := HK2.out; omega
                            case rel => exact ⟨(true), (wrap64 (x24_2 + 1)), (by first | rfl | (simp; done) | (simp [*]; done)), (by first | rfl | (simp; done) | (simp [*]; done)), H', ⟨by have := HK1.out; have := HK2.out; omega⟩, by repeat (first | exact Drawn0.refl _ | apply Drawn0.step)⟩
                          · rw [if_neg c11] at H
                            have c11b0 : (x24_2 == x14_1) = false := beq_eq_false_iff_ne.mpr c11
                            have c11b1 : (x24_2 != x14_1) = true := bne_iff_ne.mpr c11
                            replace H := Option.bind_eq_some_iff.mp H
                            obtain ⟨t654, A120, H⟩ := H
                            replace H : (spec_StarOf.l1 k2 l0 x14_1 t654 l0 (l0.length : Int) x14_1 l0 (l0.length : Int) (wrap64 (x24_2 + 1))) = some (r1, r2) := H
                            have A12 := Aside0.mk A120
                            clear A120
                            have H' := Aside0.mk H
                            clear H
                            have p653 : 0 ≤ (x24_2 : Int) := of_decide_eq_true (by first | (with_reducible assumption) | assumption)
                            have q653 : x24_2 < (l0.length : Int) := of_decide_eq_true (by first | (with_reducible assumption) | assumption)
                            obtain ⟨ad653, A653_0, c653_0, e653, hx653_0, hl653_0, hi653_0⟩ := at_L5 HR0.out x24_2 p653 q653
                            obtain rfl : ad652 = ad653 := (by injection e653)
                            have HR653_0 := Aside0.mk hi653_0
                            have HC653_0 := Aside0.mk hl653_0
                            clear hi653_0 hl653_0
                            replace p653 := eq_true p653
                            replace q653 := eq_true q653
                            go_wp2_with (first | (go_at_call 83; (with_reducible refine (spec_l1Has.calls k2 _ _ (rd_L5 l0 x24_2) x14_1 t654 _ ?side1 ?side2 A12.out).mono ?_); (case side1 => repeat (first | exact HR653_0.out | (with_reducible refine Kd.C_alloc ?_ _) | (with_reducible refine Kd.C_drewN ?_ _) | (with_reducible refine Kd.C_drew ?_))); (case side2 => exact HC653_0.out); rintro e w' ⟨rfl, ⟨nd, rfl⟩⟩))
                            go_roundg k2
                            case measure => have := HK1.out; have := HK2.out; omega
                            case rel => exact ⟨(t654), (wrap64 (x24_2 + 1)), (by first | rfl | (simp; done) | (simp [*]; done)), (by first | rfl | (simp; done) | (simp [*]; done)), H', ⟨by have := HK1.out; have := HK2.out; omega⟩, by repeat (first | exact Drawn0.refl _ | apply Drawn0.step)⟩
                        · replace c10 := Bool.eq_false_iff.mpr c10
                          subst c10
                          have H1 : (spec_StarOf.l1 k2 l0 x14_1 false l0 (l0.length : Int) x14_1 l0 (l0.length : Int) (wrap64 (x24_2 + 1))) = some (r1, r2) := by rw [if_neg (show ¬ (false = true) by decide)] at H; exact H
                          clear H
                          have H := H1
                          clear H1
                          have H' := Aside0.mk H
                          clear H
                          have p653 : 0 ≤ (x24_2 : Int) := of_decide_eq_true (by first | (with_reducible assumption) | assumption)
                          have q653 : x24_2 < (l0.length : Int) := of_decide_eq_true (by first | (with_reducible assumption) | assumption)
                          obtain ⟨ad653, A653_0, c653_0, e653, hx653_0, hl653_0, hi653_0⟩ := at_L5 HR0.out x24_2 p653 q653
                          obtain rfl : ad652 = ad653 := (by injection e653)
                          have HR653_0 := Aside0.mk hi653_0
                          have HC653_0 := Aside0.mk hl653_0
                          clear hi653_0 hl653_0
                          replace p653 := eq_true p653
                          replace q653 := eq_true q653
                          go_wp2
                          go_roundg k2
                          case measure => have := HK1.out; have := HK2.out; omega
                          case rel => exact ⟨(false), (wrap64 (x24_2 + 1)), (by first | rfl | (simp; done) | (simp [*]; done)), (by first | rfl | (simp; done) | (simp [*]; done)), H', ⟨by have := HK1.out; have := HK2.out; omega⟩, by repeat (first | exact Drawn0.refl _ | apply Drawn0.step)⟩
                      · rw [if_neg c9] at H
                        exact absurd H (by simp)
                    · rw [if_neg c8] at H
                      exact absurd H (by simp)
                  · rw [if_neg c7] at H
                    have c7b0 : decide (x24_2 < (l0.length : Int)) = false := decide_eq_false c7
                    clear c7
                    by_cases c13 : x6_2 = true
                    · subst c13
                      have H1 : (some (x14_1, true)) = some (r1, r2) := by rw [if_pos rfl] at H; exact H
                      clear H
                      have H := H1
                      clear H1
                      simp only [Option.some.injEq, Prod.mk.injEq] at H
                      obtain ⟨rfl, rfl⟩ := H
                      go_wp2
                      go_ret2
                      exact ⟨by first | rfl | (simp; done) | (simp [*]; done), by repeat (first | exact Drawn0.refl _ | apply Drawn0.step)⟩
                    · replace c13 := Bool.eq_false_iff.mpr c13
                      subst c13
                      have H1 : (spec_StarOf.l0 k2 l0 l0 (l0.length : Int) (wrap64 (x14_1 + 1))) = some (r1, r2) := by rw [if_neg (show ¬ (false = true) by decide)] at H; exact H
                      clear H
                      have H := H1
                      clear H1
                      have H' := Aside0.mk H
                      clear H
                      go_wp2
                      go_roundg k2
                      case measure => have := HK1.out; have := HK2.out; omega
                      case rel => exact ⟨(wrap64 (x14_1 + 1)), (by first | rfl | (simp; done) | (simp [*]; done)), H', ⟨by have := HK1.out; have := HK2.out; omega⟩, by repeat (first | exact Drawn0.refl _ | apply Drawn0.step)⟩
            · rw [if_neg c6] at H
              exact absurd H (by simp)
          · rw [if_neg c5] at H
            exact absurd H (by simp)
        · rw [if_neg c4] at H
          have c4b0 : decide (x14_1 < (l0.length : Int)) = false := decide_eq_false c4
          clear c4
          simp only [Option.some.injEq, Prod.mk.injEq] at H
          obtain ⟨rfl, rfl⟩ := H
          go_wp2
          go_ret2
          exact ⟨by first | rfl | (simp; done) | (simp [*]; done), by repeat (first | exact Drawn0.refl _ | apply Drawn0.step)⟩
  · replace c3 := Bool.eq_false_iff.mpr c3
    subst c3
    have H1 : (some (0, false)) = some (r1, r2) := by rw [if_neg (show ¬ (false = true) by decide)] at H; exact H
    clear H
    have H := H1
    clear H1
    simp only [Option.some.injEq, Prod.mk.injEq] at H
    obtain ⟨rfl, rfl⟩ := H
    go_enter Try.func38, Try.ntmps38
    go_wp2_with (first | ((with_reducible refine gate_callee (f := 64) rfl ?_); refine goesL_ (some 10) rfl rfl Try.func64 (by kernel_rfl) rfl #[.slice A0 l0.length c0] rfl (by (try simp only [List.map_toArray, List.map_cons, List.map_nil]); first | done | rfl | (simp only [List.length_drop, List.length_take]; rfl)) ?_; (with_reducible refine (spec_haFame.calls k _ _ l0 false _ ?side1 ?side2 A2.out).mono ?_); (case side1 => repeat (first | exact HR0.out | (with_reducible refine Kd.C_alloc ?_ _) | (with_reducible refine Kd.C_drewN ?_ _) | (with_reducible refine Kd.C_drew ?_))); (case side2 => exact HC0.out); rintro e w' ⟨rfl, ⟨nd, rfl⟩⟩; refine ⟨_, rfl, ?_⟩))
    go_ret2
    exact ⟨by first | rfl | (simp; done) | (simp [*]; done), by repeat (first | exact Drawn0.refl _ | apply Drawn0.step)⟩

end Go.Proofs.Ytlacnnnmeolomaa.Q
