-- Written by wip/tools/gprint.py (the kit's print, with contracts of this session): Lean checks it.
import Derived.Test.YtlacnnnmeolomaaQ0
import Derived.Test.YtlacnnnmeolomaaQ1
import Derived.Test.YtlacnnnmeolomaaQ2
import Derived.Test.YtlacnnnmeolomaaQ3
namespace Go.Proofs.Ytlacnnnmeolomaa.Q
open Go.RowKit Go.Proofs.YtlacnnnmeolomaaW.PrintWords Go.Proofs.YtlacnnnmeolomaaW.PrintLast Go.Proofs.YtlacnnnmeolomaaW.PrintMore
attribute [local go_sem] max2_int min2_int max_two min_two max_three min_three max_four min_four   -- for this text's walks alone
set_option linter.unusedVariables false
set_option linter.unusedSimpArgs false

/-! ### spec_CouplesParty: function 14 -/
mutual
def spec_CouplesParty.l0 : Nat → Int → List (List Bool) → Int → Option (Int × (List (S91)) × Bool)
  | 0, _, _, _ => none
  | k + 1, x0, x4, x5 => if x5 < x0 then (spec_CouplesParty.l1 k x0 x4 x5 (x4.length : Int) 0) else ((spec_paOf.f k x4).bind fun bt130 => (some (bt130.1, bt130.2, true)))
def spec_CouplesParty.l1 : Nat → Int → List (List Bool) → Int → Int → Int → Option (Int × (List (S91)) × Bool)
  | 0, _, _, _, _, _ => none
  | k + 1, x0, x4, x5, x21, x22 => if x22 < x21 then (if (wrap64 (Int.tdiv x22 2)) = x5 then (spec_CouplesParty.l1 k x0 x4 x5 x21 (wrap64 (x22 + 1))) else (if (Int.tmod x22 2) = 0 then (if 0 ≤ (wrap64 (2 * x5)) then (if (wrap64 (2 * x5)) < (x4.length : Int) then (if 0 ≤ x22 then (if x22 < ((rd_L3 x4 (wrap64 (2 * x5))).length : Int) then ((some (x4.set ((wrap64 (2 * x5)) : Int).toNat ((rd_L3 x4 (wrap64 (2 * x5))).set (x22 : Int).toNat true) : List (List Bool))).bind fun y137 => (if x22 < (x4.length : Int) then (if (wrap64 (2 * x5)) < ((rd_L3 y137 x22).length : Int) then (spec_CouplesParty.l1 k x0 (y137.set (x22 : Int).toNat ((rd_L3 y137 x22).set ((wrap64 (2 * x5)) : Int).toNat true)) x5 x21 (wrap64 (x22 + 1))) else (none)) else (none))) else (none)) else (none)) else (none)) else (none)) else (if x22 = 1 then (if 0 ≤ (wrap64 (2 * x5)) then (if (wrap64 (2 * x5)) < (x4.length : Int) then (if 0 ≤ x22 then (if x22 < ((rd_L3 x4 (wrap64 (2 * x5))).length : Int) then ((some (x4.set ((wrap64 (2 * x5)) : Int).toNat ((rd_L3 x4 (wrap64 (2 * x5))).set (x22 : Int).toNat true) : List (List Bool))).bind fun y145 => (if x22 < (x4.length : Int) then (if (wrap64 (2 * x5)) < ((rd_L3 y145 x22).length : Int) then (spec_CouplesParty.l1 k x0 (y145.set (x22 : Int).toNat ((rd_L3 y145 x22).set ((wrap64 (2 * x5)) : Int).toNat true)) x5 x21 (wrap64 (x22 + 1))) else (none)) else (none))) else (none)) else (none)) else (none)) else (none)) else (if (wrap64 (Int.tdiv x22 2)) > x5 then (if 0 ≤ (wrap64 (2 * x5)) then (if (wrap64 (2 * x5)) < (x4.length : Int) then (if 0 ≤ x22 then (if x22 < ((rd_L3 x4 (wrap64 (2 * x5))).length : Int) then ((some (x4.set ((wrap64 (2 * x5)) : Int).toNat ((rd_L3 x4 (wrap64 (2 * x5))).set (x22 : Int).toNat true) : List (List Bool))).bind fun y153 => (if x22 < (x4.length : Int) then (if (wrap64 (2 * x5)) < ((rd_L3 y153 x22).length : Int) then (spec_CouplesParty.l1 k x0 (y153.set (x22 : Int).toNat ((rd_L3 y153 x22).set ((wrap64 (2 * x5)) : Int).toNat true)) x5 x21 (wrap64 (x22 + 1))) else (none)) else (none))) else (none)) else (none)) else (none)) else (none)) else (spec_CouplesParty.l1 k x0 x4 x5 x21 (wrap64 (x22 + 1))))))) else (spec_CouplesParty.l0 k x0 x4 (wrap64 (x5 + 1)))
end
def spec_CouplesParty.f (k : Nat) (a0 : Int) : Option (Int × (List (S91)) × Bool) := (spec_l1In.f a0 1 6).bind fun t126 => (if t126 = true then ((spec_paTable.f k (wrap64 (2 * a0)) ([] : List (S91))).bind fun t127 => (spec_CouplesParty.l0 k a0 t127 1)) else (some (0, ([] : List (S91)), false)))
theorem spec_CouplesParty.mono_l : ∀ k, (∀ y0 y1 y2, LeO (spec_CouplesParty.l0 k y0 y1 y2) (spec_CouplesParty.l0 (k + 1) y0 y1 y2)) ∧ (∀ y0 y1 y2 y3 y4, LeO (spec_CouplesParty.l1 k y0 y1 y2 y3 y4) (spec_CouplesParty.l1 (k + 1) y0 y1 y2 y3 y4))
  | 0 => ⟨fun _ _ _ r h => by simp [spec_CouplesParty.l0] at h, fun _ _ _ _ _ r h => by simp [spec_CouplesParty.l1] at h⟩
  | k + 1 => by
    obtain ⟨ih0, ih1⟩ := spec_CouplesParty.mono_l k
    refine ⟨?_, ?_⟩
    · intro y0 y1 y2
      unfold spec_CouplesParty.l0
      repeat' first
      | (with_reducible exact ih0 _ _ _)
      | (with_reducible exact ih1 _ _ _ _ _)
      | (with_reducible exact spec_paOf.mono _ _)
      | (with_reducible exact spec_paTable.mono _ _ _)
      | (with_reducible exact LeO.refl _)
      | (with_reducible exact LeO.none _)
      | (with_reducible refine LeO.ite ?_ ?_)
      | (with_reducible refine LeO.bind ?_ (fun _ => ?_))
      | exact ih0 _ _ _
      | exact ih1 _ _ _ _ _
      | exact spec_paOf.mono _ _
      | exact spec_paTable.mono _ _ _
      | exact LeO.none _
      | refine LeO.ite ?_ ?_
      | refine LeO.bind ?_ (fun _ => ?_)
    · intro y0 y1 y2 y3 y4
      unfold spec_CouplesParty.l1
      repeat' first
      | (with_reducible exact ih0 _ _ _)
      | (with_reducible exact ih1 _ _ _ _ _)
      | (with_reducible exact spec_paOf.mono _ _)
      | (with_reducible exact spec_paTable.mono _ _ _)
      | (with_reducible exact LeO.refl _)
      | (with_reducible exact LeO.none _)
      | (with_reducible refine LeO.ite ?_ ?_)
      | (with_reducible refine LeO.bind ?_ (fun _ => ?_))
      | exact ih0 _ _ _
      | exact ih1 _ _ _ _ _
      | exact spec_paOf.mono _ _
      | exact spec_paTable.mono _ _ _
      | exact LeO.none _
      | refine LeO.ite ?_ ?_
      | refine LeO.bind ?_ (fun _ => ?_)
theorem spec_CouplesParty.mono : ∀ a0 k, LeO (spec_CouplesParty.f k a0) (spec_CouplesParty.f (k + 1) a0) := by
  intro a0 k
  obtain ⟨ih0, ih1⟩ := spec_CouplesParty.mono_l k
  unfold spec_CouplesParty.f
  repeat' first
      | (with_reducible exact ih0 _ _ _)
      | (with_reducible exact ih1 _ _ _ _ _)
      | (with_reducible exact spec_paOf.mono _ _)
      | (with_reducible exact spec_paTable.mono _ _ _)
      | (with_reducible exact LeO.refl _)
      | (with_reducible exact LeO.none _)
      | (with_reducible refine LeO.ite ?_ ?_)
      | (with_reducible refine LeO.bind ?_ (fun _ => ?_))
      | exact ih0 _ _ _
      | exact ih1 _ _ _ _ _
      | exact spec_paOf.mono _ _
      | exact spec_paTable.mono _ _ _
      | exact LeO.none _
      | refine LeO.ite ?_ ?_
      | refine LeO.bind ?_ (fun _ => ?_)
set_option maxHeartbeats 8000000 in
set_option maxRecDepth 100000 in
theorem spec_CouplesParty.calls (k : Nat) (a0 : Int) (r1 : Int) (r2 : List (S91)) (r3 : Bool) (w : World) (h : spec_CouplesParty.f k a0 = some (r1, r2, r3)) :
    Calls Try.prog 14 #[.int .i64 a0] w fun e w' => ∃ v1_ : Value, e = .returned (.tuple #[.agg #[.int .i64 r1, v1_], .bool r3]) ∧ Kd.R k91 91 w' w.heap.size (fun _ => True) v1_ r2 ∧ Below w.heap.size w w' := by
  have hu24 := Try.underlying24
  have HB := Aside0.mk (Below.refl w.heap.size w)
  have H : ((spec_l1In.f a0 1 6).bind fun t126 => (if t126 = true then ((spec_paTable.f k (wrap64 (2 * a0)) ([] : List (S91))).bind fun t127 => (spec_CouplesParty.l0 k a0 t127 1)) else (some (0, ([] : List (S91)), false)))) = some (r1, r2, r3) := h
  clear h
  replace H := Option.bind_eq_some_iff.mp H
  obtain ⟨t126, A20, H⟩ := H
  replace H : (if t126 = true then ((spec_paTable.f k (wrap64 (2 * a0)) ([] : List (S91))).bind fun t127 => (spec_CouplesParty.l0 k a0 t127 1)) else (some (0, ([] : List (S91)), false))) = some (r1, r2, r3) := H
  have A2 := Aside0.mk A20
  clear A20
  by_cases c3 : t126 = true
  · subst c3
    have H1 : ((spec_paTable.f k (wrap64 (2 * a0)) ([] : List (S91))).bind fun t127 => (spec_CouplesParty.l0 k a0 t127 1)) = some (r1, r2, r3) := by rw [if_pos rfl] at H; exact H
    clear H
    have H := H1
    clear H1
    replace H := Option.bind_eq_some_iff.mp H
    obtain ⟨t127, A40, H⟩ := H
    replace H : (spec_CouplesParty.l0 k a0 t127 1) = some (r1, r2, r3) := H
    have A4 := Aside0.mk A40
    clear A40
    have H' := Aside0.mk H
    clear H
    go_enter Try.func14, Try.ntmps14
    go_wp2_with (first | ((with_reducible refine gate_dst (N := 2) rfl ?_); refine box_event ?hg (N := 2) ?hd (cs := #[.int .i64 0, .slice none 0 0]) (t := 24) ?hr ?_; (case hd => rfl); (case hg => rfl); (case hr => first | (go_simp; done) | (go_simp; rfl)); intro gb125 hg w5 hbox hb; have n0_ := Aside0.mk (below_step (by repeat (first | (with_reducible first | exact HB.out | apply below_alloc | apply pw_below_drewN | apply below_drew1) | exact HB.out)) hb); have n1_ := Aside0.mk (hbox); have n2_ := Aside0.mk ((by rw [hg]; exact (below_size (by repeat (first | (with_reducible first | exact HB.out | apply below_alloc | apply pw_below_drewN | apply below_drew1) | exact HB.out))) : w.heap.size ≤ gb125)); have n3_ := Aside0.mk ((by rw [hg]; exact (below_size (by repeat (first | (with_reducible first | exact HB.out | apply below_alloc | apply pw_below_drewN | apply below_drew1) | exact HB.out))) : w.heap.size ≤ gb125)); clear HB; have HB := n0_; have BK125 := n1_; have GW125 := n2_; have GE125 := n3_; clear n0_ n1_ n2_ n3_; clear hb hbox hg) | ((with_reducible refine gate_callee (f := 55) rfl ?_); refine goesL_ (some 8) rfl rfl Try.func55 (by kernel_rfl) rfl #[.int .i64 a0, .int .i64 1, .int .i64 6] rfl (by (try simp only [List.map_toArray, List.map_cons, List.map_nil]); first | done | rfl | (simp only [List.length_drop, List.length_take]; rfl)) ?_; (with_reducible refine (spec_l1In.calls a0 1 6 true _ A2.out).mono ?_); rintro e w' ⟨rfl, ⟨nd, rfl⟩⟩; refine ⟨_, rfl, ?_⟩) | ((with_reducible refine gate_callee (f := 56) rfl ?_); refine goesL_ (some 14) rfl rfl Try.func56 (by kernel_rfl) rfl #[.agg #[.int .i64 (wrap64 (2 * a0)), .slice none 0 0]] rfl (by (try simp only [List.map_toArray, List.map_cons, List.map_nil]); first | done | rfl | (simp only [List.length_drop, List.length_take]; rfl)) ?_; (refine (spec_paTable.calls k (wrap64 (2 * a0)) _ _ ([] : List (S91)) t127 _ ?side1 ?side2 A4.out).mono ?_); (case side1 => exact Kd.C_nil _ _); (case side2 => exact Nat.le_refl _); rintro e w6 ⟨v128, rfl, ho0, hb⟩; refine ⟨_, rfl, ?_⟩; have n0_ := Aside0.mk (Kd.S_lower ho0 (below_size (by repeat (first | (with_reducible first | exact HB.out | apply below_alloc | apply pw_below_drewN | apply below_drew1 | refine below_set ?_ GE125.out) | exact HB.out)))); have n1_ := Aside0.mk (blk_below (g := gb125) (o := .cells #[.int .i64 0, .slice none 0 0] 24 (0, 0)) (by (with_reducible repeat (first | refine blk_drewN ?_ _ | refine blk_drew ?_ | refine blk_alloc ?_ _)); exact BK125.out) hb); have n2_ := Aside0.mk (below_step (by repeat (first | (with_reducible first | exact HB.out | apply below_alloc | apply pw_below_drewN | apply below_drew1 | refine below_set ?_ GE125.out) | exact HB.out)) hb); clear BK125; clear HB; have HO129 := n0_; have BK125 := n1_; have HB := n2_; clear n0_ n1_ n2_; (try clear hb); (try clear hb2); (try clear hk); (try clear hi); (try clear ho0)))
    go_loopg [5] k (fun kq v5 w' => ∃ (x4_1 : List (List Bool)) (x5_1 : Int), v5 = .int .i64 x5_1 ∧ Aside0 (spec_CouplesParty.l0 kq a0 x4_1 x5_1 = some (r1, r2, r3)) ∧ Aside0 (kq ≤ k) ∧ Aside0 (Kd.S (Kd.slice 4 Kd.bool) 74 w' w.heap.size (fun _ => True) v128 x4_1) ∧ Aside0 (w'.heap[gb125]? = some (.cells #[.int .i64 0, (.slice none 0 0)] 24 (0, 0))) ∧ Aside0 (Below w.heap.size w w'))
    case atStart => exact ⟨(t127), (1), (by first | rfl | (simp; done) | (simp [*]; done)), H', ⟨Nat.le_refl _⟩, ⟨by (with_reducible repeat (first | apply Kd.S_alloc | apply Kd.S_drewN | apply Kd.S_drew)); exact HO129.out⟩, ⟨by (with_reducible repeat (first | refine blk_drewN ?_ _ | refine blk_drew ?_ | refine blk_alloc ?_ _)); exact BK125.out⟩, ⟨by repeat (first | (with_reducible first | exact HB.out | apply below_alloc | apply pw_below_drewN | apply below_drew1 | refine below_set ?_ GE125.out) | exact HB.out)⟩⟩
    case round =>
      clear H'
      try clear c1
      try clear p2
      try clear c3
      try clear c5
      try clear p6
      obtain ⟨x4_1, x5_1, rfl, HA, HK1, HO_4, BK125, HB⟩ := hrel
      cases gk with
      | zero => exact absurd HA.out (by simp [spec_CouplesParty.l0])
      | succ k1 =>
        have H := HA.out
        clear HA
        simp only [spec_CouplesParty.l0] at H
        by_cases c7 : x5_1 < a0
        · rw [if_pos c7] at H
          have c7b0 : decide (x5_1 < a0) = true := decide_eq_true c7
          clear c7
          have H' := Aside0.mk H
          clear H
          obtain ⟨Ao8, co8, eo8⟩ := Kd.S_slice HO_4.out
          subst eo8
          go_wp2
          go_loopg [22] k1 (fun kq v22 w' => ∃ (x4_2 : List (List Bool)) (x22_2 : Int), v22 = .int .i64 x22_2 ∧ Aside0 (spec_CouplesParty.l1 kq a0 x4_2 x5_1 (x4_1.length : Int) x22_2 = some (r1, r2, r3)) ∧ Aside0 (kq ≤ k1) ∧ Aside0 (Kd.S (Kd.slice 4 Kd.bool) 74 w' w.heap.size (fun _ => True) (.slice Ao8 x4_1.length co8) x4_2) ∧ Aside0 (w'.heap[gb125]? = some (.cells #[.int .i64 0, (.slice none 0 0)] 24 (0, 0))) ∧ Aside0 (Below w.heap.size w w'))
          case atStart => exact ⟨(x4_1), (0), (by first | rfl | (simp; done) | (simp [*]; done)), H', ⟨Nat.le_refl _⟩, ⟨by (with_reducible repeat (first | apply Kd.S_alloc | apply Kd.S_drewN | apply Kd.S_drew)); exact HO_4.out⟩, ⟨by (with_reducible repeat (first | refine blk_drewN ?_ _ | refine blk_drew ?_ | refine blk_alloc ?_ _)); exact BK125.out⟩, ⟨by repeat (first | (with_reducible first | exact HB.out | apply below_alloc | apply pw_below_drewN | apply below_drew1 | refine below_set ?_ GE125.out) | exact HB.out)⟩⟩
          case round =>
            clear H'
            try clear c1
            try clear p2
            try clear c3
            try clear c5
            try clear p6
            try clear c7
            try clear c7b0
            try clear p2
            try clear p6
            obtain ⟨x4_2, x22_2, rfl, HA, HK2, HO_4, BK125, HB⟩ := hrel
            have hl4_2 := (Kd.S_reads' HO_4.out).1
            rw [hl4_2] at HO_4
            (try simp only [hl4_2])
            (try simp only [hl4_2] at BK125)
            cases gk with
            | zero => exact absurd HA.out (by simp [spec_CouplesParty.l1])
            | succ k2 =>
              have H := HA.out
              clear HA
              simp only [spec_CouplesParty.l1] at H
              by_cases c9 : x22_2 < (x4_1.length : Int)
              · rw [if_pos c9] at H
                have c9b0 : decide (x22_2 < (x4_1.length : Int)) = true := decide_eq_true c9
                (try (have c9b0_0 := c9b0; simp only [hl4_2] at c9b0_0))
                clear c9
                by_cases c10 : (wrap64 (Int.tdiv x22_2 2)) = x5_1
                · rw [if_pos c10] at H
                  have c10b0 : ((wrap64 (Int.tdiv x22_2 2)) == x5_1) = true := beq_iff_eq.mpr c10
                  have c10b1 : ((wrap64 (Int.tdiv x22_2 2)) != x5_1) = false := bne_eq_false_iff_eq.mpr c10
                  clear c10
                  have H' := Aside0.mk H
                  clear H
                  go_wp2
                  (try simp only [← hl4_2])
                  go_roundg k2
                  case measure => have := HK1.out; have := HK2.out; omega
                  case rel => exact ⟨(x4_2), (wrap64 (x22_2 + 1)), (by first | rfl | (simp; done) | (simp [*]; done)), H', ⟨by have := HK1.out; have := HK2.out; omega⟩, ⟨by (try simp only [hl4_2]); (with_reducible repeat (first | apply Kd.S_alloc | apply Kd.S_drewN | apply Kd.S_drew)); exact HO_4.out⟩, ⟨by (try simp only [hl4_2]); (with_reducible repeat (first | refine blk_drewN ?_ _ | refine blk_drew ?_ | refine blk_alloc ?_ _)); exact BK125.out⟩, ⟨by repeat (first | (with_reducible first | exact HB.out | apply below_alloc | apply pw_below_drewN | apply below_drew1 | refine below_set ?_ GE125.out) | exact HB.out)⟩⟩
                · rw [if_neg c10] at H
                  have c10b0 : ((wrap64 (Int.tdiv x22_2 2)) == x5_1) = false := beq_eq_false_iff_ne.mpr c10
                  have c10b1 : ((wrap64 (Int.tdiv x22_2 2)) != x5_1) = true := bne_iff_ne.mpr c10
                  by_cases c11 : (Int.tmod x22_2 2) = 0
                  · rw [if_pos c11] at H
                    have c11b0 : ((Int.tmod x22_2 2) == 0) = true := beq_iff_eq.mpr c11
                    have c11b1 : ((Int.tmod x22_2 2) != 0) = false := bne_eq_false_iff_eq.mpr c11
                    clear c11
                    obtain ⟨ji12, hji12⟩ : ∃ j_ : Int, (wrap64 (2 * x5_1)) = j_ := ⟨_, rfl⟩
                    replace H : (if 0 ≤ (ji12) then (if (ji12) < (x4_2.length : Int) then (if 0 ≤ x22_2 then (if x22_2 < ((rd_L3 x4_2 (ji12)).length : Int) then ((some (x4_2.set ((ji12) : Int).toNat ((rd_L3 x4_2 (ji12)).set (x22_2 : Int).toNat true) : List (List Bool))).bind fun y137 => (if x22_2 < (x4_2.length : Int) then (if (ji12) < ((rd_L3 y137 x22_2).length : Int) then (spec_CouplesParty.l1 k2 a0 (y137.set (x22_2 : Int).toNat ((rd_L3 y137 x22_2).set ((ji12) : Int).toNat true)) x5_1 (x4_1.length : Int) (wrap64 (x22_2 + 1))) else (none)) else (none))) else (none)) else (none)) else (none)) else (none)) = some (r1, r2, r3) := by first | (rw [hji12] at H; exact H) | (simp only [hji12] at H ⊢; exact H)
                    have hji12w : (IntKind.i64.wrap (2 * x5_1)) = ji12 := (i64_w _).trans hji12
                    by_cases c13 : 0 ≤ (ji12)
                    · rw [if_pos c13] at H
                      have c13b0 : decide (0 ≤ (ji12)) = true := decide_eq_true c13
                      clear c13
                      by_cases c14 : (ji12) < (x4_2.length : Int)
                      · rw [if_pos c14] at H
                        have c14b0 : decide ((ji12) < (x4_2.length : Int)) = true := decide_eq_true c14
                        (try (have c14b0_0 := c14b0; simp only [hl4_2] at c14b0_0))
                        clear c14
                        by_cases c15 : 0 ≤ x22_2
                        · rw [if_pos c15] at H
                          have c15b0 : decide (0 ≤ x22_2) = true := decide_eq_true c15
                          clear c15
                          by_cases c16 : x22_2 < ((rd_L3 x4_2 (ji12)).length : Int)
                          · rw [if_pos c16] at H
                            have c16b0 : decide (x22_2 < ((rd_L3 x4_2 (ji12)).length : Int)) = true := decide_eq_true c16
                            (try (have c16b0_0 := c16b0; simp only [hl4_2] at c16b0_0))
                            clear c16
                            obtain ⟨y135, hy135⟩ : ∃ y_ : List Bool, y_ = ((rd_L3 x4_2 (ji12)).set (x22_2 : Int).toNat true) := ⟨_, rfl⟩
                            replace H : ((some (x4_2.set ((ji12) : Int).toNat y135 : List (List Bool))).bind fun y137 => (if x22_2 < (x4_2.length : Int) then (if (ji12) < ((rd_L3 y137 x22_2).length : Int) then (spec_CouplesParty.l1 k2 a0 (y137.set (x22_2 : Int).toNat ((rd_L3 y137 x22_2).set ((ji12) : Int).toNat true)) x5_1 (x4_1.length : Int) (wrap64 (x22_2 + 1))) else (none)) else (none))) = some (r1, r2, r3) := by first | (rw [hy135]; with_reducible exact H) | (have H2_ := (Option.bind_some _ _).symm.trans H; rw [hy135]; with_reducible exact H2_) | (have H2_ := (Option.bind_some _ _).symm.trans H; with_reducible exact H2_) | with_reducible exact H | (rw [hy135]; exact H) | exact H
                            have Ny135 := Aside0.mk hy135
                            clear hy135
                            obtain ⟨y137, hy137⟩ : ∃ y_ : List (List Bool), y_ = (x4_2.set ((ji12) : Int).toNat y135) := ⟨_, rfl⟩
                            replace H : (if x22_2 < (x4_2.length : Int) then (if (ji12) < ((rd_L3 y137 x22_2).length : Int) then (spec_CouplesParty.l1 k2 a0 (y137.set (x22_2 : Int).toNat ((rd_L3 y137 x22_2).set ((ji12) : Int).toNat true)) x5_1 (x4_1.length : Int) (wrap64 (x22_2 + 1))) else (none)) else (none)) = some (r1, r2, r3) := by first | (rw [hy137]; with_reducible exact H) | (have H2_ := (Option.bind_some _ _).symm.trans H; rw [hy137]; with_reducible exact H2_) | (have H2_ := (Option.bind_some _ _).symm.trans H; with_reducible exact H2_) | with_reducible exact H | (rw [hy137]; exact H) | exact H
                            have Ny137 := Aside0.mk hy137
                            clear hy137
                            by_cases c18 : x22_2 < (x4_2.length : Int)
                            · rw [if_pos c18] at H
                              have c18b0 : decide (x22_2 < (x4_2.length : Int)) = true := decide_eq_true c18
                              (try (have c18b0_0 := c18b0; simp only [hl4_2] at c18b0_0))
                              clear c18
                              by_cases c19 : (ji12) < ((rd_L3 y137 x22_2).length : Int)
                              · rw [if_pos c19] at H
                                have c19b0 : decide ((ji12) < ((rd_L3 y137 x22_2).length : Int)) = true := decide_eq_true c19
                                (try (have c19b0_0 := c19b0; simp only [hl4_2] at c19b0_0))
                                clear c19
                                obtain ⟨y139, hy139⟩ : ∃ y_ : List Bool, y_ = ((rd_L3 y137 x22_2).set ((ji12) : Int).toNat true) := ⟨_, rfl⟩
                                replace H : (spec_CouplesParty.l1 k2 a0 (y137.set (x22_2 : Int).toNat y139) x5_1 (x4_1.length : Int) (wrap64 (x22_2 + 1))) = some (r1, r2, r3) := by first | (rw [hy139]; with_reducible exact H) | (have H2_ := (Option.bind_some _ _).symm.trans H; rw [hy139]; with_reducible exact H2_) | (have H2_ := (Option.bind_some _ _).symm.trans H; with_reducible exact H2_) | with_reducible exact H | (rw [hy139]; exact H) | exact H
                                have Ny139 := Aside0.mk hy139
                                clear hy139
                                obtain ⟨y141, hy141⟩ : ∃ y_ : List (List Bool), y_ = (y137.set (x22_2 : Int).toNat y139) := ⟨_, rfl⟩
                                replace H : (spec_CouplesParty.l1 k2 a0 y141 x5_1 (x4_1.length : Int) (wrap64 (x22_2 + 1))) = some (r1, r2, r3) := by first | (rw [hy141]; with_reducible exact H) | (have H2_ := (Option.bind_some _ _).symm.trans H; rw [hy141]; with_reducible exact H2_) | (have H2_ := (Option.bind_some _ _).symm.trans H; with_reducible exact H2_) | with_reducible exact H | (rw [hy141]; exact H) | exact H
                                have Ny141 := Aside0.mk hy141
                                clear hy141
                                have H' := Aside0.mk H
                                clear H
                                have p134 : 0 ≤ ((ji12) : Int) := of_decide_eq_true (by first | (with_reducible assumption) | assumption)
                                have q134 : (ji12) < (x4_2.length : Int) := of_decide_eq_true (by first | (with_reducible assumption) | assumption)
                                obtain ⟨ad134, A134_0, c134_0, e134, hx134_0, hl134_0, hi134_0⟩ := at_L3 (Kd.S_reads' HO_4.out).2.2 (ji12) p134 q134
                                cases e134
                                obtain ⟨ce134, hce134, hMe134, hcc134⟩ := Kd.S_get HO_4.out [] (ji12) p134 (by first | exact q134 | exact of_decide_eq_true (by first | (with_reducible assumption) | assumption) | (have e_ := (Kd.S_reads' HO_4.out).1; omega))
                                obtain ⟨ve134_0, rfl, ge134_0⟩ := hMe134
                                have hv134_0 := hcc134 0 _ rfl
                                rw [Nat.add_zero, show ((Kd.slice 4 Kd.bool)).sz = 1 from rfl, Nat.mul_one] at hv134_0
                                replace hv134_0 := Option.some.inj (hv134_0.symm.trans hx134_0)
                                rw [hv134_0] at ge134_0
                                have HL134_0 := Aside0.mk (show Kd.R Kd.bool 4 _ _ _ _ (rd_L3 x4_2 (ji12)) from ge134_0)
                                clear hv134_0 ge134_0
                                have HX134_0 := Aside0.mk hx134_0
                                clear hcc134 hce134
                                have HR134_0 := Aside0.mk hi134_0
                                have HC134_0 := Aside0.mk hl134_0
                                clear hi134_0 hl134_0
                                replace p134 := eq_true p134
                                replace q134 := eq_true q134
                                have p17 : 0 ≤ (x22_2 : Int) := of_decide_eq_true (by first | (with_reducible assumption) | assumption)
                                have q17 : (x22_2 : Int) < (((rd_L3 x4_2 (ji12)).length : Int) : Int) := of_decide_eq_true (by first | (with_reducible assumption) | assumption)
                                obtain ⟨go17, co17, eo17, gb17, gl17, cl17, HG17⟩ := Kd.R_form HL134_0.out (by omega)
                                (first | cases eo17 | (injection eo17 with ea_ en_ ec_; (first | subst ea_ | (injection ea_ with ea_; subst ea_)); subst ec_; clear en_))
                                have GB17 := Aside0.mk gb17
                                have GG17 := Aside0.mk HG17
                                clear gb17 gl17 HG17
                                obtain ⟨hx17_0, hf17_0⟩ := Kd.R_celln false HL134_0.out (x22_2 : Int) p17 q17
                                replace p17 := eq_true p17
                                replace q17 := eq_true q17
                                have hq21 : ((ji12) : Int) < (x4_2.length : Int) := (by have h_ : ((ji12) : Int) < ((x4_2.length : Int) : Int) := of_decide_eq_true (by first | (with_reducible assumption) | assumption); first | exact h_ | (have e_ := (Kd.S_reads' HO_4.out).1; omega) | simpa only [List.length_set, List.length_set] using h_)
                                obtain ⟨oki21, ce21, hcl21, hM21, hcc21, hok21, hbk21⟩ := Kd.S_borrow HO_4.out [] ((ji12) : Int) (of_decide_eq_true (by first | (with_reducible assumption) | assumption)) (by first | exact hq21 | exact of_decide_eq_true (by first | (with_reducible assumption) | assumption) | (have e_ := (Kd.S_reads' HO_4.out).1; omega))
                                obtain ⟨ve21_0, rfl, ge21_0⟩ := hM21
                                have hv21 := hcc21 0 _ rfl
                                rw [Nat.add_zero, show ((Kd.slice 4 Kd.bool)).sz = 1 from rfl, Nat.mul_one] at hv21
                                replace hv21 := Option.some.inj (hv21.symm.trans HX134_0.out)
                                subst hv21
                                clear hcc21 hcl21
                                replace ge21_0 := (show Kd.R Kd.bool 4 _ _ _ _ (rd_L3 x4_2 (ji12)) from ge21_0)
                                have HP21 := Kd.R_putg ge21_0 (x22_2 : Int) true
                                go_wp2_with (first | ((with_reducible refine gate_store (t := 4) (p := 50) rfl ?_); refine store_event (t := 4) (p := 50) (v := ?vo_w22) (w1 := (wr.setCell ⟨go17, (x22_2 : Int).toNat, none⟩ (.bool true))) ?hg ?ho ?hn ?hr ?_; (case ho => rfl); (case hg => rfl); (case hn => rfl); (case hr => first | (go_simp; done) | (go_simp; rfl)); intro w22 hw; have hg : wr.grownBy w22 (some go17) := (by rw [hw]; exact HP21.2); have hz_ : Kd.R Kd.bool 4 w22 w.heap.size oki21 (.slice (some ⟨go17, 0, none⟩) (rd_L3 x4_2 (ji12)).length c134_0) y135 := (by rw [hw, Ny135.out]; exact HP21.1); have hp_ : Kd.S (Kd.slice 4 Kd.bool) 74 w22 w.heap.size (fun _ => True) (.slice (some ad134) x4_2.length co8) y137 := (by rw [Ny137.out]; exact hbk21 hg (fun k_ e_ => by injection e_ with e_; subst e_; exact ge21_0.1 _ rfl) (Kd.M_row hz_)); have hm_ := Kd.R_mono hz_ hok21; clear HP21 hbk21; have n0_ := Aside0.mk (hp_); have n1_ := Aside0.mk (blk_grown (g := gb125) (o := .cells #[.int .i64 0, .slice none 0 0] 24 (0, 0)) (by (with_reducible repeat (first | refine blk_drewN ?_ _ | refine blk_drew ?_ | refine blk_alloc ?_ _)); exact BK125.out) hg (Kd.R_ne HL134_0.out BK125.out (by decide))); have n2_ := Aside0.mk ((by rw [hw]; exact below_set (HB.out) GB17.out : Below w.heap.size w w22)); have n3_ := Aside0.mk (hm_); have n4_ := Aside0.mk ((Kd.R_reads' hm_).2.1); clear HO_4; clear BK125; clear HB; clear HL134_0; have HO_4 := n0_; have BK125 := n1_; have HB := n2_; have HL158 := n3_; have HC136 := n4_; clear n0_ n1_ n2_ n3_ n4_; clear hg hw hp_ hz_ hm_ hok21; have p138 : 0 ≤ (x22_2 : Int) := of_decide_eq_true (by first | (with_reducible assumption) | assumption); have q138 : x22_2 < (y137.length : Int) := (by have h_ : (x22_2 : Int) < ((x4_2.length : Int) : Int) := of_decide_eq_true (by first | (with_reducible assumption) | assumption); first | (have e_ := (Kd.S_reads' HO_4.out).1; omega) | simpa only [Ny137.out, List.length_set] using h_); have ql138 : ((x22_2 : Int) < ((x4_2.length : Int) : Int)) = True := eq_true (of_decide_eq_true (by first | (with_reducible assumption) | assumption)); obtain ⟨ad138, A138_0, c138_0, e138, hx138_0, hl138_0, hi138_0⟩ := at_L3 (Kd.S_reads' HO_4.out).2.2 x22_2 p138 q138; obtain rfl : ad134 = ad138 := (by injection e138); obtain ⟨ce138, hce138, hMe138, hcc138⟩ := Kd.S_get HO_4.out [] x22_2 p138 (by first | exact q138 | exact of_decide_eq_true (by first | (with_reducible assumption) | assumption) | (have e_ := (Kd.S_reads' HO_4.out).1; omega)); obtain ⟨ve138_0, rfl, ge138_0⟩ := hMe138; have hv138_0 := hcc138 0 _ rfl; rw [Nat.add_zero, show ((Kd.slice 4 Kd.bool)).sz = 1 from rfl, Nat.mul_one] at hv138_0; replace hv138_0 := Option.some.inj (hv138_0.symm.trans hx138_0); rw [hv138_0] at ge138_0; have HL138_0 := Aside0.mk (show Kd.R Kd.bool 4 _ _ _ _ (rd_L3 y137 x22_2) from ge138_0); clear hv138_0 ge138_0; have HX138_0 := Aside0.mk hx138_0; clear hcc138 hce138; have HR138_0 := Aside0.mk hi138_0; have HC138_0 := Aside0.mk hl138_0; clear hi138_0 hl138_0; replace p138 := eq_true p138; replace q138 := eq_true q138; have p20 : 0 ≤ ((ji12) : Int) := of_decide_eq_true (by first | (with_reducible assumption) | assumption); have q20 : ((ji12) : Int) < (((rd_L3 y137 x22_2).length : Int) : Int) := of_decide_eq_true (by first | (with_reducible assumption) | assumption); obtain ⟨go20, co20, eo20, gb20, gl20, cl20, HG20⟩ := Kd.R_form HL138_0.out (by omega); (first | cases eo20 | (injection eo20 with ea_ en_ ec_; (first | subst ea_ | (injection ea_ with ea_; subst ea_)); subst ec_; clear en_)); have GB20 := Aside0.mk gb20; have GG20 := Aside0.mk HG20; clear gb20 gl20 HG20; obtain ⟨hx20_0, hf20_0⟩ := Kd.R_celln false HL138_0.out ((ji12) : Int) p20 q20; replace p20 := eq_true p20; replace q20 := eq_true q20; have hq23 : (x22_2 : Int) < (y137.length : Int) := (by have h_ : (x22_2 : Int) < ((x4_2.length : Int) : Int) := of_decide_eq_true (by first | (with_reducible assumption) | assumption); first | exact h_ | (have e_ := (Kd.S_reads' HO_4.out).1; omega) | simpa only [Ny137.out, List.length_set] using h_); obtain ⟨oki23, ce23, hcl23, hM23, hcc23, hok23, hbk23⟩ := Kd.S_borrow HO_4.out [] (x22_2 : Int) (of_decide_eq_true (by first | (with_reducible assumption) | assumption)) (by first | exact hq23 | exact of_decide_eq_true (by first | (with_reducible assumption) | assumption) | (have e_ := (Kd.S_reads' HO_4.out).1; omega)); obtain ⟨ve23_0, rfl, ge23_0⟩ := hM23; have hv23 := hcc23 0 _ rfl; rw [Nat.add_zero, show ((Kd.slice 4 Kd.bool)).sz = 1 from rfl, Nat.mul_one] at hv23; replace hv23 := Option.some.inj (hv23.symm.trans HX138_0.out); subst hv23; clear hcc23 hcl23; replace ge23_0 := (show Kd.R Kd.bool 4 _ _ _ _ (rd_L3 y137 x22_2) from ge23_0); have HP23 := Kd.R_putg ge23_0 ((ji12) : Int) true) | ((with_reducible refine gate_store (t := 4) (p := 57) rfl ?_); refine store_event (t := 4) (p := 57) (v := ?vo_w24) (w1 := (w22.setCell ⟨go20, ((ji12) : Int).toNat, none⟩ (.bool true))) ?hg ?ho ?hn ?hr ?_; (case ho => rfl); (case hg => rfl); (case hn => rfl); (case hr => first | (go_simp; done) | (go_simp; rfl)); intro w24 hw; have hg : w22.grownBy w24 (some go20) := (by rw [hw]; exact HP23.2); have hz_ : Kd.R Kd.bool 4 w24 w.heap.size oki23 (.slice (some ⟨go20, 0, none⟩) (rd_L3 y137 x22_2).length c138_0) y139 := (by rw [hw, Ny139.out]; exact HP23.1); have hp_ : Kd.S (Kd.slice 4 Kd.bool) 74 w24 w.heap.size (fun _ => True) (.slice (some ad134) x4_2.length co8) y141 := (by rw [Ny141.out]; exact hbk23 hg (fun k_ e_ => by injection e_ with e_; subst e_; exact ge23_0.1 _ rfl) (Kd.M_row hz_)); have hm_ := Kd.R_mono hz_ hok23; clear HP23 hbk23; have n0_ := Aside0.mk (hp_); have n1_ := Aside0.mk (blk_grown (g := gb125) (o := .cells #[.int .i64 0, .slice none 0 0] 24 (0, 0)) (by (with_reducible repeat (first | refine blk_drewN ?_ _ | refine blk_drew ?_ | refine blk_alloc ?_ _)); exact BK125.out) hg (Kd.R_ne HL138_0.out BK125.out (by decide))); have n2_ := Aside0.mk ((by rw [hw]; exact below_set (HB.out) GB20.out : Below w.heap.size w w24)); have n3_ := Aside0.mk (hm_); have n4_ := Aside0.mk ((Kd.R_reads' hm_).2.1); clear HO_4; clear BK125; clear HB; clear HL158; clear HL138_0; have HO_4 := n0_; have BK125 := n1_; have HB := n2_; have HL159 := n3_; have HC140 := n4_; clear n0_ n1_ n2_ n3_ n4_; clear hg hw hp_ hz_ hm_ hok23))
                                (try simp only [← hl4_2])
                                go_roundg k2
                                case measure => have := HK1.out; have := HK2.out; omega
                                case rel => exact ⟨(y141), (wrap64 (x22_2 + 1)), (by first | rfl | (simp; done) | (simp [*]; done)), H', ⟨by have := HK1.out; have := HK2.out; omega⟩, ⟨by (try simp only [hl4_2]); (with_reducible repeat (first | apply Kd.S_alloc | apply Kd.S_drewN | apply Kd.S_drew)); exact HO_4.out⟩, ⟨by (try simp only [hl4_2]); (with_reducible repeat (first | refine blk_drewN ?_ _ | refine blk_drew ?_ | refine blk_alloc ?_ _)); exact BK125.out⟩, ⟨by repeat (first | (with_reducible first | exact HB.out | apply below_alloc | apply pw_below_drewN | apply below_drew1 | refine below_set ?_ GE125.out) | exact HB.out)⟩⟩
                              · rw [if_neg c19] at H
                                exact absurd H (by simp)
                            · rw [if_neg c18] at H
                              exact absurd H (by simp)
                          · rw [if_neg c16] at H
                            exact absurd H (by simp)
                        · rw [if_neg c15] at H
                          exact absurd H (by simp)
                      · rw [if_neg c14] at H
                        exact absurd H (by simp)
                    · rw [if_neg c13] at H
                      exact absurd H (by simp)
                  · rw [if_neg c11] at H
                    have c11b0 : ((Int.tmod x22_2 2) == 0) = false := beq_eq_false_iff_ne.mpr c11
                    have c11b1 : ((Int.tmod x22_2 2) != 0) = true := bne_iff_ne.mpr c11
                    by_cases c25 : x22_2 = 1
                    · rw [if_pos c25] at H
                      have c25b0 : (x22_2 == 1) = true := beq_iff_eq.mpr c25
                      have c25b1 : (x22_2 != 1) = false := bne_eq_false_iff_eq.mpr c25
                      clear c25
                      obtain ⟨ji26, hji26⟩ : ∃ j_ : Int, (wrap64 (2 * x5_1)) = j_ := ⟨_, rfl⟩
                      replace H : (if 0 ≤ (ji26) then (if (ji26) < (x4_2.length : Int) then (if 0 ≤ x22_2 then (if x22_2 < ((rd_L3 x4_2 (ji26)).length : Int) then ((some (x4_2.set ((ji26) : Int).toNat ((rd_L3 x4_2 (ji26)).set (x22_2 : Int).toNat true) : List (List Bool))).bind fun y145 => (if x22_2 < (x4_2.length : Int) then (if (ji26) < ((rd_L3 y145 x22_2).length : Int) then (spec_CouplesParty.l1 k2 a0 (y145.set (x22_2 : Int).toNat ((rd_L3 y145 x22_2).set ((ji26) : Int).toNat true)) x5_1 (x4_1.length : Int) (wrap64 (x22_2 + 1))) else (none)) else (none))) else (none)) else (none)) else (none)) else (none)) = some (r1, r2, r3) := by first | (rw [hji26] at H; exact H) | (simp only [hji26] at H ⊢; exact H)
                      have hji26w : (IntKind.i64.wrap (2 * x5_1)) = ji26 := (i64_w _).trans hji26
                      by_cases c27 : 0 ≤ (ji26)
                      · rw [if_pos c27] at H
                        have c27b0 : decide (0 ≤ (ji26)) = true := decide_eq_true c27
                        clear c27
                        by_cases c28 : (ji26) < (x4_2.length : Int)
                        · rw [if_pos c28] at H
                          have c28b0 : decide ((ji26) < (x4_2.length : Int)) = true := decide_eq_true c28
                          (try (have c28b0_0 := c28b0; simp only [hl4_2] at c28b0_0))
                          clear c28
                          by_cases c29 : 0 ≤ x22_2
                          · rw [if_pos c29] at H
                            have c29b0 : decide (0 ≤ x22_2) = true := decide_eq_true c29
                            clear c29
                            by_cases c30 : x22_2 < ((rd_L3 x4_2 (ji26)).length : Int)
                            · rw [if_pos c30] at H
                              have c30b0 : decide (x22_2 < ((rd_L3 x4_2 (ji26)).length : Int)) = true := decide_eq_true c30
                              (try (have c30b0_0 := c30b0; simp only [hl4_2] at c30b0_0))
                              clear c30
                              obtain ⟨y143, hy143⟩ : ∃ y_ : List Bool, y_ = ((rd_L3 x4_2 (ji26)).set (x22_2 : Int).toNat true) := ⟨_, rfl⟩
                              replace H : ((some (x4_2.set ((ji26) : Int).toNat y143 : List (List Bool))).bind fun y145 => (if x22_2 < (x4_2.length : Int) then (if (ji26) < ((rd_L3 y145 x22_2).length : Int) then (spec_CouplesParty.l1 k2 a0 (y145.set (x22_2 : Int).toNat ((rd_L3 y145 x22_2).set ((ji26) : Int).toNat true)) x5_1 (x4_1.length : Int) (wrap64 (x22_2 + 1))) else (none)) else (none))) = some (r1, r2, r3) := by first | (rw [hy143]; with_reducible exact H) | (have H2_ := (Option.bind_some _ _).symm.trans H; rw [hy143]; with_reducible exact H2_) | (have H2_ := (Option.bind_some _ _).symm.trans H; with_reducible exact H2_) | with_reducible exact H | (rw [hy143]; exact H) | exact H
                              have Ny143 := Aside0.mk hy143
                              clear hy143
                              obtain ⟨y145, hy145⟩ : ∃ y_ : List (List Bool), y_ = (x4_2.set ((ji26) : Int).toNat y143) := ⟨_, rfl⟩
                              replace H : (if x22_2 < (x4_2.length : Int) then (if (ji26) < ((rd_L3 y145 x22_2).length : Int) then (spec_CouplesParty.l1 k2 a0 (y145.set (x22_2 : Int).toNat ((rd_L3 y145 x22_2).set ((ji26) : Int).toNat true)) x5_1 (x4_1.length : Int) (wrap64 (x22_2 + 1))) else (none)) else (none)) = some (r1, r2, r3) := by first | (rw [hy145]; with_reducible exact H) | (have H2_ := (Option.bind_some _ _).symm.trans H; rw [hy145]; with_reducible exact H2_) | (have H2_ := (Option.bind_some _ _).symm.trans H; with_reducible exact H2_) | with_reducible exact H | (rw [hy145]; exact H) | exact H
                              have Ny145 := Aside0.mk hy145
                              clear hy145
                              by_cases c32 : x22_2 < (x4_2.length : Int)
                              · rw [if_pos c32] at H
                                have c32b0 : decide (x22_2 < (x4_2.length : Int)) = true := decide_eq_true c32
                                (try (have c32b0_0 := c32b0; simp only [hl4_2] at c32b0_0))
                                clear c32
                                by_cases c33 : (ji26) < ((rd_L3 y145 x22_2).length : Int)
                                · rw [if_pos c33] at H
                                  have c33b0 : decide ((ji26) < ((rd_L3 y145 x22_2).length : Int)) = true := decide_eq_true c33
                                  (try (have c33b0_0 := c33b0; simp only [hl4_2] at c33b0_0))
                                  clear c33
                                  obtain ⟨y147, hy147⟩ : ∃ y_ : List Bool, y_ = ((rd_L3 y145 x22_2).set ((ji26) : Int).toNat true) := ⟨_, rfl⟩
                                  replace H : (spec_CouplesParty.l1 k2 a0 (y145.set (x22_2 : Int).toNat y147) x5_1 (x4_1.length : Int) (wrap64 (x22_2 + 1))) = some (r1, r2, r3) := by first | (rw [hy147]; with_reducible exact H) | (have H2_ := (Option.bind_some _ _).symm.trans H; rw [hy147]; with_reducible exact H2_) | (have H2_ := (Option.bind_some _ _).symm.trans H; with_reducible exact H2_) | with_reducible exact H | (rw [hy147]; exact H) | exact H
                                  have Ny147 := Aside0.mk hy147
                                  clear hy147
                                  obtain ⟨y149, hy149⟩ : ∃ y_ : List (List Bool), y_ = (y145.set (x22_2 : Int).toNat y147) := ⟨_, rfl⟩
                                  replace H : (spec_CouplesParty.l1 k2 a0 y149 x5_1 (x4_1.length : Int) (wrap64 (x22_2 + 1))) = some (r1, r2, r3) := by first | (rw [hy149]; with_reducible exact H) | (have H2_ := (Option.bind_some _ _).symm.trans H; rw [hy149]; with_reducible exact H2_) | (have H2_ := (Option.bind_some _ _).symm.trans H; with_reducible exact H2_) | with_reducible exact H | (rw [hy149]; exact H) | exact H
                                  have Ny149 := Aside0.mk hy149
                                  clear hy149
                                  have H' := Aside0.mk H
                                  clear H
                                  have p142 : 0 ≤ ((ji26) : Int) := of_decide_eq_true (by first | (with_reducible assumption) | assumption)
                                  have q142 : (ji26) < (x4_2.length : Int) := of_decide_eq_true (by first | (with_reducible assumption) | assumption)
                                  obtain ⟨ad142, A142_0, c142_0, e142, hx142_0, hl142_0, hi142_0⟩ := at_L3 (Kd.S_reads' HO_4.out).2.2 (ji26) p142 q142
                                  cases e142
                                  obtain ⟨ce142, hce142, hMe142, hcc142⟩ := Kd.S_get HO_4.out [] (ji26) p142 (by first | exact q142 | exact of_decide_eq_true (by first | (with_reducible assumption) | assumption) | (have e_ := (Kd.S_reads' HO_4.out).1; omega))
                                  obtain ⟨ve142_0, rfl, ge142_0⟩ := hMe142
                                  have hv142_0 := hcc142 0 _ rfl
                                  rw [Nat.add_zero, show ((Kd.slice 4 Kd.bool)).sz = 1 from rfl, Nat.mul_one] at hv142_0
                                  replace hv142_0 := Option.some.inj (hv142_0.symm.trans hx142_0)
                                  rw [hv142_0] at ge142_0
                                  have HL142_0 := Aside0.mk (show Kd.R Kd.bool 4 _ _ _ _ (rd_L3 x4_2 (ji26)) from ge142_0)
                                  clear hv142_0 ge142_0
                                  have HX142_0 := Aside0.mk hx142_0
                                  clear hcc142 hce142
                                  have HR142_0 := Aside0.mk hi142_0
                                  have HC142_0 := Aside0.mk hl142_0
                                  clear hi142_0 hl142_0
                                  replace p142 := eq_true p142
                                  replace q142 := eq_true q142
                                  have p31 : 0 ≤ (x22_2 : Int) := of_decide_eq_true (by first | (with_reducible assumption) | assumption)
                                  have q31 : (x22_2 : Int) < (((rd_L3 x4_2 (ji26)).length : Int) : Int) := of_decide_eq_true (by first | (with_reducible assumption) | assumption)
                                  obtain ⟨go31, co31, eo31, gb31, gl31, cl31, HG31⟩ := Kd.R_form HL142_0.out (by omega)
                                  (first | cases eo31 | (injection eo31 with ea_ en_ ec_; (first | subst ea_ | (injection ea_ with ea_; subst ea_)); subst ec_; clear en_))
                                  have GB31 := Aside0.mk gb31
                                  have GG31 := Aside0.mk HG31
                                  clear gb31 gl31 HG31
                                  obtain ⟨hx31_0, hf31_0⟩ := Kd.R_celln false HL142_0.out (x22_2 : Int) p31 q31
                                  replace p31 := eq_true p31
                                  replace q31 := eq_true q31
                                  have hq35 : ((ji26) : Int) < (x4_2.length : Int) := (by have h_ : ((ji26) : Int) < ((x4_2.length : Int) : Int) := of_decide_eq_true (by first | (with_reducible assumption) | assumption); first | exact h_ | (have e_ := (Kd.S_reads' HO_4.out).1; omega) | simpa only [List.length_set, List.length_set] using h_)
                                  obtain ⟨oki35, ce35, hcl35, hM35, hcc35, hok35, hbk35⟩ := Kd.S_borrow HO_4.out [] ((ji26) : Int) (of_decide_eq_true (by first | (with_reducible assumption) | assumption)) (by first | exact hq35 | exact of_decide_eq_true (by first | (with_reducible assumption) | assumption) | (have e_ := (Kd.S_reads' HO_4.out).1; omega))
                                  obtain ⟨ve35_0, rfl, ge35_0⟩ := hM35
                                  have hv35 := hcc35 0 _ rfl
                                  rw [Nat.add_zero, show ((Kd.slice 4 Kd.bool)).sz = 1 from rfl, Nat.mul_one] at hv35
                                  replace hv35 := Option.some.inj (hv35.symm.trans HX142_0.out)
                                  subst hv35
                                  clear hcc35 hcl35
                                  replace ge35_0 := (show Kd.R Kd.bool 4 _ _ _ _ (rd_L3 x4_2 (ji26)) from ge35_0)
                                  have HP35 := Kd.R_putg ge35_0 (x22_2 : Int) true
                                  go_wp2_with (first | ((with_reducible refine gate_store (t := 4) (p := 50) rfl ?_); refine store_event (t := 4) (p := 50) (v := ?vo_w36) (w1 := (wr.setCell ⟨go31, (x22_2 : Int).toNat, none⟩ (.bool true))) ?hg ?ho ?hn ?hr ?_; (case ho => rfl); (case hg => rfl); (case hn => rfl); (case hr => first | (go_simp; done) | (go_simp; rfl)); intro w36 hw; have hg : wr.grownBy w36 (some go31) := (by rw [hw]; exact HP35.2); have hz_ : Kd.R Kd.bool 4 w36 w.heap.size oki35 (.slice (some ⟨go31, 0, none⟩) (rd_L3 x4_2 (ji26)).length c142_0) y143 := (by rw [hw, Ny143.out]; exact HP35.1); have hp_ : Kd.S (Kd.slice 4 Kd.bool) 74 w36 w.heap.size (fun _ => True) (.slice (some ad142) x4_2.length co8) y145 := (by rw [Ny145.out]; exact hbk35 hg (fun k_ e_ => by injection e_ with e_; subst e_; exact ge35_0.1 _ rfl) (Kd.M_row hz_)); have hm_ := Kd.R_mono hz_ hok35; clear HP35 hbk35; have n0_ := Aside0.mk (hp_); have n1_ := Aside0.mk (blk_grown (g := gb125) (o := .cells #[.int .i64 0, .slice none 0 0] 24 (0, 0)) (by (with_reducible repeat (first | refine blk_drewN ?_ _ | refine blk_drew ?_ | refine blk_alloc ?_ _)); exact BK125.out) hg (Kd.R_ne HL142_0.out BK125.out (by decide))); have n2_ := Aside0.mk ((by rw [hw]; exact below_set (HB.out) GB31.out : Below w.heap.size w w36)); have n3_ := Aside0.mk (hm_); have n4_ := Aside0.mk ((Kd.R_reads' hm_).2.1); clear HO_4; clear BK125; clear HB; clear HL142_0; have HO_4 := n0_; have BK125 := n1_; have HB := n2_; have HL160 := n3_; have HC144 := n4_; clear n0_ n1_ n2_ n3_ n4_; clear hg hw hp_ hz_ hm_ hok35; have p146 : 0 ≤ (x22_2 : Int) := of_decide_eq_true (by first | (with_reducible assumption) | assumption); have q146 : x22_2 < (y145.length : Int) := (by have h_ : (x22_2 : Int) < ((x4_2.length : Int) : Int) := of_decide_eq_true (by first | (with_reducible assumption) | assumption); first | (have e_ := (Kd.S_reads' HO_4.out).1; omega) | simpa only [Ny145.out, List.length_set] using h_); have ql146 : ((x22_2 : Int) < ((x4_2.length : Int) : Int)) = True := eq_true (of_decide_eq_true (by first | (with_reducible assumption) | assumption)); obtain ⟨ad146, A146_0, c146_0, e146, hx146_0, hl146_0, hi146_0⟩ := at_L3 (Kd.S_reads' HO_4.out).2.2 x22_2 p146 q146; obtain rfl : ad142 = ad146 := (by injection e146); obtain ⟨ce146, hce146, hMe146, hcc146⟩ := Kd.S_get HO_4.out [] x22_2 p146 (by first | exact q146 | exact of_decide_eq_true (by first | (with_reducible assumption) | assumption) | (have e_ := (Kd.S_reads' HO_4.out).1; omega)); obtain ⟨ve146_0, rfl, ge146_0⟩ := hMe146; have hv146_0 := hcc146 0 _ rfl; rw [Nat.add_zero, show ((Kd.slice 4 Kd.bool)).sz = 1 from rfl, Nat.mul_one] at hv146_0; replace hv146_0 := Option.some.inj (hv146_0.symm.trans hx146_0); rw [hv146_0] at ge146_0; have HL146_0 := Aside0.mk (show Kd.R Kd.bool 4 _ _ _ _ (rd_L3 y145 x22_2) from ge146_0); clear hv146_0 ge146_0; have HX146_0 := Aside0.mk hx146_0; clear hcc146 hce146; have HR146_0 := Aside0.mk hi146_0; have HC146_0 := Aside0.mk hl146_0; clear hi146_0 hl146_0; replace p146 := eq_true p146; replace q146 := eq_true q146; have p34 : 0 ≤ ((ji26) : Int) := of_decide_eq_true (by first | (with_reducible assumption) | assumption); have q34 : ((ji26) : Int) < (((rd_L3 y145 x22_2).length : Int) : Int) := of_decide_eq_true (by first | (with_reducible assumption) | assumption); obtain ⟨go34, co34, eo34, gb34, gl34, cl34, HG34⟩ := Kd.R_form HL146_0.out (by omega); (first | cases eo34 | (injection eo34 with ea_ en_ ec_; (first | subst ea_ | (injection ea_ with ea_; subst ea_)); subst ec_; clear en_)); have GB34 := Aside0.mk gb34; have GG34 := Aside0.mk HG34; clear gb34 gl34 HG34; obtain ⟨hx34_0, hf34_0⟩ := Kd.R_celln false HL146_0.out ((ji26) : Int) p34 q34; replace p34 := eq_true p34; replace q34 := eq_true q34; have hq37 : (x22_2 : Int) < (y145.length : Int) := (by have h_ : (x22_2 : Int) < ((x4_2.length : Int) : Int) := of_decide_eq_true (by first | (with_reducible assumption) | assumption); first | exact h_ | (have e_ := (Kd.S_reads' HO_4.out).1; omega) | simpa only [Ny145.out, List.length_set] using h_); obtain ⟨oki37, ce37, hcl37, hM37, hcc37, hok37, hbk37⟩ := Kd.S_borrow HO_4.out [] (x22_2 : Int) (of_decide_eq_true (by first | (with_reducible assumption) | assumption)) (by first | exact hq37 | exact of_decide_eq_true (by first | (with_reducible assumption) | assumption) | (have e_ := (Kd.S_reads' HO_4.out).1; omega)); obtain ⟨ve37_0, rfl, ge37_0⟩ := hM37; have hv37 := hcc37 0 _ rfl; rw [Nat.add_zero, show ((Kd.slice 4 Kd.bool)).sz = 1 from rfl, Nat.mul_one] at hv37; replace hv37 := Option.some.inj (hv37.symm.trans HX146_0.out); subst hv37; clear hcc37 hcl37; replace ge37_0 := (show Kd.R Kd.bool 4 _ _ _ _ (rd_L3 y145 x22_2) from ge37_0); have HP37 := Kd.R_putg ge37_0 ((ji26) : Int) true) | ((with_reducible refine gate_store (t := 4) (p := 57) rfl ?_); refine store_event (t := 4) (p := 57) (v := ?vo_w38) (w1 := (w36.setCell ⟨go34, ((ji26) : Int).toNat, none⟩ (.bool true))) ?hg ?ho ?hn ?hr ?_; (case ho => rfl); (case hg => rfl); (case hn => rfl); (case hr => first | (go_simp; done) | (go_simp; rfl)); intro w38 hw; have hg : w36.grownBy w38 (some go34) := (by rw [hw]; exact HP37.2); have hz_ : Kd.R Kd.bool 4 w38 w.heap.size oki37 (.slice (some ⟨go34, 0, none⟩) (rd_L3 y145 x22_2).length c146_0) y147 := (by rw [hw, Ny147.out]; exact HP37.1); have hp_ : Kd.S (Kd.slice 4 Kd.bool) 74 w38 w.heap.size (fun _ => True) (.slice (some ad142) x4_2.length co8) y149 := (by rw [Ny149.out]; exact hbk37 hg (fun k_ e_ => by injection e_ with e_; subst e_; exact ge37_0.1 _ rfl) (Kd.M_row hz_)); have hm_ := Kd.R_mono hz_ hok37; clear HP37 hbk37; have n0_ := Aside0.mk (hp_); have n1_ := Aside0.mk (blk_grown (g := gb125) (o := .cells #[.int .i64 0, .slice none 0 0] 24 (0, 0)) (by (with_reducible repeat (first | refine blk_drewN ?_ _ | refine blk_drew ?_ | refine blk_alloc ?_ _)); exact BK125.out) hg (Kd.R_ne HL146_0.out BK125.out (by decide))); have n2_ := Aside0.mk ((by rw [hw]; exact below_set (HB.out) GB34.out : Below w.heap.size w w38)); have n3_ := Aside0.mk (hm_); have n4_ := Aside0.mk ((Kd.R_reads' hm_).2.1); clear HO_4; clear BK125; clear HB; clear HL160; clear HL146_0; have HO_4 := n0_; have BK125 := n1_; have HB := n2_; have HL161 := n3_; have HC148 := n4_; clear n0_ n1_ n2_ n3_ n4_; clear hg hw hp_ hz_ hm_ hok37))
                                  (try simp only [← hl4_2])
                                  go_roundg k2
                                  case measure => have := HK1.out; have := HK2.out; omega
                                  case rel => exact ⟨(y149), (wrap64 (x22_2 + 1)), (by first | rfl | (simp; done) | (simp [*]; done)), H', ⟨by have := HK1.out; have := HK2.out; omega⟩, ⟨by (try simp only [hl4_2]); (with_reducible repeat (first | apply Kd.S_alloc | apply Kd.S_drewN | apply Kd.S_drew)); exact HO_4.out⟩, ⟨by (try simp only [hl4_2]); (with_reducible repeat (first | refine blk_drewN ?_ _ | refine blk_drew ?_ | refine blk_alloc ?_ _)); exact BK125.out⟩, ⟨by repeat (first | (with_reducible first | exact HB.out | apply below_alloc | apply pw_below_drewN | apply below_drew1 | refine below_set ?_ GE125.out) | exact HB.out)⟩⟩
                                · rw [if_neg c33] at H
                                  exact absurd H (by simp)
                              · rw [if_neg c32] at H
                                exact absurd H (by simp)
                            · rw [if_neg c30] at H
                              exact absurd H (by simp)
                          · rw [if_neg c29] at H
                            exact absurd H (by simp)
                        · rw [if_neg c28] at H
                          exact absurd H (by simp)
                      · rw [if_neg c27] at H
                        exact absurd H (by simp)
                    · rw [if_neg c25] at H
                      have c25b0 : (x22_2 == 1) = false := beq_eq_false_iff_ne.mpr c25
                      have c25b1 : (x22_2 != 1) = true := bne_iff_ne.mpr c25
                      by_cases c39 : (wrap64 (Int.tdiv x22_2 2)) > x5_1
                      · rw [if_pos c39] at H
                        have c39b0 : decide (x5_1 < (wrap64 (Int.tdiv x22_2 2))) = true := decide_eq_true c39
                        clear c39
                        obtain ⟨ji40, hji40⟩ : ∃ j_ : Int, (wrap64 (2 * x5_1)) = j_ := ⟨_, rfl⟩
                        replace H : (if 0 ≤ (ji40) then (if (ji40) < (x4_2.length : Int) then (if 0 ≤ x22_2 then (if x22_2 < ((rd_L3 x4_2 (ji40)).length : Int) then ((some (x4_2.set ((ji40) : Int).toNat ((rd_L3 x4_2 (ji40)).set (x22_2 : Int).toNat true) : List (List Bool))).bind fun y153 => (if x22_2 < (x4_2.length : Int) then (if (ji40) < ((rd_L3 y153 x22_2).length : Int) then (spec_CouplesParty.l1 k2 a0 (y153.set (x22_2 : Int).toNat ((rd_L3 y153 x22_2).set ((ji40) : Int).toNat true)) x5_1 (x4_1.length : Int) (wrap64 (x22_2 + 1))) else (none)) else (none))) else (none)) else (none)) else (none)) else (none)) = some (r1, r2, r3) := by first | (rw [hji40] at H; exact H) | (simp only [hji40] at H ⊢; exact H)
                        have hji40w : (IntKind.i64.wrap (2 * x5_1)) = ji40 := (i64_w _).trans hji40
                        by_cases c41 : 0 ≤ (ji40)
                        · rw [if_pos c41] at H
                          have c41b0 : decide (0 ≤ (ji40)) = true := decide_eq_true c41
                          clear c41
                          by_cases c42 : (ji40) < (x4_2.length : Int)
                          · rw [if_pos c42] at H
                            have c42b0 : decide ((ji40) < (x4_2.length : Int)) = true := decide_eq_true c42
                            (try (have c42b0_0 := c42b0; simp only [hl4_2] at c42b0_0))
                            clear c42
                            by_cases c43 : 0 ≤ x22_2
                            · rw [if_pos c43] at H
                              have c43b0 : decide (0 ≤ x22_2) = true := decide_eq_true c43
                              clear c43
                              by_cases c44 : x22_2 < ((rd_L3 x4_2 (ji40)).length : Int)
                              · rw [if_pos c44] at H
                                have c44b0 : decide (x22_2 < ((rd_L3 x4_2 (ji40)).length : Int)) = true := decide_eq_true c44
                                (try (have c44b0_0 := c44b0; simp only [hl4_2] at c44b0_0))
                                clear c44
                                obtain ⟨y151, hy151⟩ : ∃ y_ : List Bool, y_ = ((rd_L3 x4_2 (ji40)).set (x22_2 : Int).toNat true) := ⟨_, rfl⟩
                                replace H : ((some (x4_2.set ((ji40) : Int).toNat y151 : List (List Bool))).bind fun y153 => (if x22_2 < (x4_2.length : Int) then (if (ji40) < ((rd_L3 y153 x22_2).length : Int) then (spec_CouplesParty.l1 k2 a0 (y153.set (x22_2 : Int).toNat ((rd_L3 y153 x22_2).set ((ji40) : Int).toNat true)) x5_1 (x4_1.length : Int) (wrap64 (x22_2 + 1))) else (none)) else (none))) = some (r1, r2, r3) := by first | (rw [hy151]; with_reducible exact H) | (have H2_ := (Option.bind_some _ _).symm.trans H; rw [hy151]; with_reducible exact H2_) | (have H2_ := (Option.bind_some _ _).symm.trans H; with_reducible exact H2_) | with_reducible exact H | (rw [hy151]; exact H) | exact H
                                have Ny151 := Aside0.mk hy151
                                clear hy151
                                obtain ⟨y153, hy153⟩ : ∃ y_ : List (List Bool), y_ = (x4_2.set ((ji40) : Int).toNat y151) := ⟨_, rfl⟩
                                replace H : (if x22_2 < (x4_2.length : Int) then (if (ji40) < ((rd_L3 y153 x22_2).length : Int) then (spec_CouplesParty.l1 k2 a0 (y153.set (x22_2 : Int).toNat ((rd_L3 y153 x22_2).set ((ji40) : Int).toNat true)) x5_1 (x4_1.length : Int) (wrap64 (x22_2 + 1))) else (none)) else (none)) = some (r1, r2, r3) := by first | (rw [hy153]; with_reducible exact H) | (have H2_ := (Option.bind_some _ _).symm.trans H; rw [hy153]; with_reducible exact H2_) | (have H2_ := (Option.bind_some _ _).symm.trans H; with_reducible exact H2_) | with_reducible exact H | (rw [hy153]; exact H) | exact H
                                have Ny153 := Aside0.mk hy153
                                clear hy153
                                by_cases c46 : x22_2 < (x4_2.length : Int)
                                · rw [if_pos c46] at H
                                  have c46b0 : decide (x22_2 < (x4_2.length : Int)) = true := decide_eq_true c46
                                  (try (have c46b0_0 := c46b0; simp only [hl4_2] at c46b0_0))
                                  clear c46
                                  by_cases c47 : (ji40) < ((rd_L3 y153 x22_2).length : Int)
                                  · rw [if_pos c47] at H
                                    have c47b0 : decide ((ji40) < ((rd_L3 y153 x22_2).length : Int)) = true := decide_eq_true c47
                                    (try (have c47b0_0 := c47b0; simp only [hl4_2] at c47b0_0))
                                    clear c47
                                    obtain ⟨y155, hy155⟩ : ∃ y_ : List Bool, y_ = ((rd_L3 y153 x22_2).set ((ji40) : Int).toNat true) := ⟨_, rfl⟩
                                    replace H : (spec_CouplesParty.l1 k2 a0 (y153.set (x22_2 : Int).toNat y155) x5_1 (x4_1.length : Int) (wrap64 (x22_2 + 1))) = some (r1, r2, r3) := by first | (rw [hy155]; with_reducible exact H) | (have H2_ := (Option.bind_some _ _).symm.trans H; rw [hy155]; with_reducible exact H2_) | (have H2_ := (Option.bind_some _ _).symm.trans H; with_reducible exact H2_) | with_reducible exact H | (rw [hy155]; exact H) | exact H
                                    have Ny155 := Aside0.mk hy155
                                    clear hy155
                                    obtain ⟨y157, hy157⟩ : ∃ y_ : List (List Bool), y_ = (y153.set (x22_2 : Int).toNat y155) := ⟨_, rfl⟩
                                    replace H : (spec_CouplesParty.l1 k2 a0 y157 x5_1 (x4_1.length : Int) (wrap64 (x22_2 + 1))) = some (r1, r2, r3) := by first | (rw [hy157]; with_reducible exact H) | (have H2_ := (Option.bind_some _ _).symm.trans H; rw [hy157]; with_reducible exact H2_) | (have H2_ := (Option.bind_some _ _).symm.trans H; with_reducible exact H2_) | with_reducible exact H | (rw [hy157]; exact H) | exact H
                                    have Ny157 := Aside0.mk hy157
                                    clear hy157
                                    have H' := Aside0.mk H
                                    clear H
                                    have p150 : 0 ≤ ((ji40) : Int) := of_decide_eq_true (by first | (with_reducible assumption) | assumption)
                                    have q150 : (ji40) < (x4_2.length : Int) := of_decide_eq_true (by first | (with_reducible assumption) | assumption)
                                    obtain ⟨ad150, A150_0, c150_0, e150, hx150_0, hl150_0, hi150_0⟩ := at_L3 (Kd.S_reads' HO_4.out).2.2 (ji40) p150 q150
                                    cases e150
                                    obtain ⟨ce150, hce150, hMe150, hcc150⟩ := Kd.S_get HO_4.out [] (ji40) p150 (by first | exact q150 | exact of_decide_eq_true (by first | (with_reducible assumption) | assumption) | (have e_ := (Kd.S_reads' HO_4.out).1; omega))
                                    obtain ⟨ve150_0, rfl, ge150_0⟩ := hMe150
                                    have hv150_0 := hcc150 0 _ rfl
                                    rw [Nat.add_zero, show ((Kd.slice 4 Kd.bool)).sz = 1 from rfl, Nat.mul_one] at hv150_0
                                    replace hv150_0 := Option.some.inj (hv150_0.symm.trans hx150_0)
                                    rw [hv150_0] at ge150_0
                                    have HL150_0 := Aside0.mk (show Kd.R Kd.bool 4 _ _ _ _ (rd_L3 x4_2 (ji40)) from ge150_0)
                                    clear hv150_0 ge150_0
                                    have HX150_0 := Aside0.mk hx150_0
                                    clear hcc150 hce150
                                    have HR150_0 := Aside0.mk hi150_0
                                    have HC150_0 := Aside0.mk hl150_0
                                    clear hi150_0 hl150_0
                                    replace p150 := eq_true p150
                                    replace q150 := eq_true q150
                                    have p45 : 0 ≤ (x22_2 : Int) := of_decide_eq_true (by first | (with_reducible assumption) | assumption)
                                    have q45 : (x22_2 : Int) < (((rd_L3 x4_2 (ji40)).length : Int) : Int) := of_decide_eq_true (by first | (with_reducible assumption) | assumption)
                                    obtain ⟨go45, co45, eo45, gb45, gl45, cl45, HG45⟩ := Kd.R_form HL150_0.out (by omega)
                                    (first | cases eo45 | (injection eo45 with ea_ en_ ec_; (first | subst ea_ | (injection ea_ with ea_; subst ea_)); subst ec_; clear en_))
                                    have GB45 := Aside0.mk gb45
                                    have GG45 := Aside0.mk HG45
                                    clear gb45 gl45 HG45
                                    obtain ⟨hx45_0, hf45_0⟩ := Kd.R_celln false HL150_0.out (x22_2 : Int) p45 q45
                                    replace p45 := eq_true p45
                                    replace q45 := eq_true q45
                                    have hq49 : ((ji40) : Int) < (x4_2.length : Int) := (by have h_ : ((ji40) : Int) < ((x4_2.length : Int) : Int) := of_decide_eq_true (by first | (with_reducible assumption) | assumption); first | exact h_ | (have e_ := (Kd.S_reads' HO_4.out).1; omega) | simpa only [List.length_set, List.length_set] using h_)
                                    obtain ⟨oki49, ce49, hcl49, hM49, hcc49, hok49, hbk49⟩ := Kd.S_borrow HO_4.out [] ((ji40) : Int) (of_decide_eq_true (by first | (with_reducible assumption) | assumption)) (by first | exact hq49 | exact of_decide_eq_true (by first | (with_reducible assumption) | assumption) | (have e_ := (Kd.S_reads' HO_4.out).1; omega))
                                    obtain ⟨ve49_0, rfl, ge49_0⟩ := hM49
                                    have hv49 := hcc49 0 _ rfl
                                    rw [Nat.add_zero, show ((Kd.slice 4 Kd.bool)).sz = 1 from rfl, Nat.mul_one] at hv49
                                    replace hv49 := Option.some.inj (hv49.symm.trans HX150_0.out)
                                    subst hv49
                                    clear hcc49 hcl49
                                    replace ge49_0 := (show Kd.R Kd.bool 4 _ _ _ _ (rd_L3 x4_2 (ji40)) from ge49_0)
                                    have HP49 := Kd.R_putg ge49_0 (x22_2 : Int) true
                                    go_wp2_with (first | ((with_reducible refine gate_store (t := 4) (p := 50) rfl ?_); refine store_event (t := 4) (p := 50) (v := ?vo_w50) (w1 := (wr.setCell ⟨go45, (x22_2 : Int).toNat, none⟩ (.bool true))) ?hg ?ho ?hn ?hr ?_; (case ho => rfl); (case hg => rfl); (case hn => rfl); (case hr => first | (go_simp; done) | (go_simp; rfl)); intro w50 hw; have hg : wr.grownBy w50 (some go45) := (by rw [hw]; exact HP49.2); have hz_ : Kd.R Kd.bool 4 w50 w.heap.size oki49 (.slice (some ⟨go45, 0, none⟩) (rd_L3 x4_2 (ji40)).length c150_0) y151 := (by rw [hw, Ny151.out]; exact HP49.1); have hp_ : Kd.S (Kd.slice 4 Kd.bool) 74 w50 w.heap.size (fun _ => True) (.slice (some ad150) x4_2.length co8) y153 := (by rw [Ny153.out]; exact hbk49 hg (fun k_ e_ => by injection e_ with e_; subst e_; exact ge49_0.1 _ rfl) (Kd.M_row hz_)); have hm_ := Kd.R_mono hz_ hok49; clear HP49 hbk49; have n0_ := Aside0.mk (hp_); have n1_ := Aside0.mk (blk_grown (g := gb125) (o := .cells #[.int .i64 0, .slice none 0 0] 24 (0, 0)) (by (with_reducible repeat (first | refine blk_drewN ?_ _ | refine blk_drew ?_ | refine blk_alloc ?_ _)); exact BK125.out) hg (Kd.R_ne HL150_0.out BK125.out (by decide))); have n2_ := Aside0.mk ((by rw [hw]; exact below_set (HB.out) GB45.out : Below w.heap.size w w50)); have n3_ := Aside0.mk (hm_); have n4_ := Aside0.mk ((Kd.R_reads' hm_).2.1); clear HO_4; clear BK125; clear HB; clear HL150_0; have HO_4 := n0_; have BK125 := n1_; have HB := n2_; have HL162 := n3_; have HC152 := n4_; clear n0_ n1_ n2_ n3_ n4_; clear hg hw hp_ hz_ hm_ hok49; have p154 : 0 ≤ (x22_2 : Int) := of_decide_eq_true (by first | (with_reducible assumption) | assumption); have q154 : x22_2 < (y153.length : Int) := (by have h_ : (x22_2 : Int) < ((x4_2.length : Int) : Int) := of_decide_eq_true (by first | (with_reducible assumption) | assumption); first | (have e_ := (Kd.S_reads' HO_4.out).1; omega) | simpa only [Ny153.out, List.length_set] using h_); have ql154 : ((x22_2 : Int) < ((x4_2.length : Int) : Int)) = True := eq_true (of_decide_eq_true (by first | (with_reducible assumption) | assumption)); obtain ⟨ad154, A154_0, c154_0, e154, hx154_0, hl154_0, hi154_0⟩ := at_L3 (Kd.S_reads' HO_4.out).2.2 x22_2 p154 q154; obtain rfl : ad150 = ad154 := (by injection e154); obtain ⟨ce154, hce154, hMe154, hcc154⟩ := Kd.S_get HO_4.out [] x22_2 p154 (by first | exact q154 | exact of_decide_eq_true (by first | (with_reducible assumption) | assumption) | (have e_ := (Kd.S_reads' HO_4.out).1; omega)); obtain ⟨ve154_0, rfl, ge154_0⟩ := hMe154; have hv154_0 := hcc154 0 _ rfl; rw [Nat.add_zero, show ((Kd.slice 4 Kd.bool)).sz = 1 from rfl, Nat.mul_one] at hv154_0; replace hv154_0 := Option.some.inj (hv154_0.symm.trans hx154_0); rw [hv154_0] at ge154_0; have HL154_0 := Aside0.mk (show Kd.R Kd.bool 4 _ _ _ _ (rd_L3 y153 x22_2) from ge154_0); clear hv154_0 ge154_0; have HX154_0 := Aside0.mk hx154_0; clear hcc154 hce154; have HR154_0 := Aside0.mk hi154_0; have HC154_0 := Aside0.mk hl154_0; clear hi154_0 hl154_0; replace p154 := eq_true p154; replace q154 := eq_true q154; have p48 : 0 ≤ ((ji40) : Int) := of_decide_eq_true (by first | (with_reducible assumption) | assumption); have q48 : ((ji40) : Int) < (((rd_L3 y153 x22_2).length : Int) : Int) := of_decide_eq_true (by first | (with_reducible assumption) | assumption); obtain ⟨go48, co48, eo48, gb48, gl48, cl48, HG48⟩ := Kd.R_form HL154_0.out (by omega); (first | cases eo48 | (injection eo48 with ea_ en_ ec_; (first | subst ea_ | (injection ea_ with ea_; subst ea_)); subst ec_; clear en_)); have GB48 := Aside0.mk gb48; have GG48 := Aside0.mk HG48; clear gb48 gl48 HG48; obtain ⟨hx48_0, hf48_0⟩ := Kd.R_celln false HL154_0.out ((ji40) : Int) p48 q48; replace p48 := eq_true p48; replace q48 := eq_true q48; have hq51 : (x22_2 : Int) < (y153.length : Int) := (by have h_ : (x22_2 : Int) < ((x4_2.length : Int) : Int) := of_decide_eq_true (by first | (with_reducible assumption) | assumption); first | exact h_ | (have e_ := (Kd.S_reads' HO_4.out).1; omega) | simpa only [Ny153.out, List.length_set] using h_); obtain ⟨oki51, ce51, hcl51, hM51, hcc51, hok51, hbk51⟩ := Kd.S_borrow HO_4.out [] (x22_2 : Int) (of_decide_eq_true (by first | (with_reducible assumption) | assumption)) (by first | exact hq51 | exact of_decide_eq_true (by first | (with_reducible assumption) | assumption) | (have e_ := (Kd.S_reads' HO_4.out).1; omega)); obtain ⟨ve51_0, rfl, ge51_0⟩ := hM51; have hv51 := hcc51 0 _ rfl; rw [Nat.add_zero, show ((Kd.slice 4 Kd.bool)).sz = 1 from rfl, Nat.mul_one] at hv51; replace hv51 := Option.some.inj (hv51.symm.trans HX154_0.out); subst hv51; clear hcc51 hcl51; replace ge51_0 := (show Kd.R Kd.bool 4 _ _ _ _ (rd_L3 y153 x22_2) from ge51_0); have HP51 := Kd.R_putg ge51_0 ((ji40) : Int) true) | ((with_reducible refine gate_store (t := 4) (p := 57) rfl ?_); refine store_event (t := 4) (p := 57) (v := ?vo_w52) (w1 := (w50.setCell ⟨go48, ((ji40) : Int).toNat, none⟩ (.bool true))) ?hg ?ho ?hn ?hr ?_; (case ho => rfl); (case hg => rfl); (case hn => rfl); (case hr => first | (go_simp; done) | (go_simp; rfl)); intro w52 hw; have hg : w50.grownBy w52 (some go48) := (by rw [hw]; exact HP51.2); have hz_ : Kd.R Kd.bool 4 w52 w.heap.size oki51 (.slice (some ⟨go48, 0, none⟩) (rd_L3 y153 x22_2).length c154_0) y155 := (by rw [hw, Ny155.out]; exact HP51.1); have hp_ : Kd.S (Kd.slice 4 Kd.bool) 74 w52 w.heap.size (fun _ => True) (.slice (some ad150) x4_2.length co8) y157 := (by rw [Ny157.out]; exact hbk51 hg (fun k_ e_ => by injection e_ with e_; subst e_; exact ge51_0.1 _ rfl) (Kd.M_row hz_)); have hm_ := Kd.R_mono hz_ hok51; clear HP51 hbk51; have n0_ := Aside0.mk (hp_); have n1_ := Aside0.mk (blk_grown (g := gb125) (o := .cells #[.int .i64 0, .slice none 0 0] 24 (0, 0)) (by (with_reducible repeat (first | refine blk_drewN ?_ _ | refine blk_drew ?_ | refine blk_alloc ?_ _)); exact BK125.out) hg (Kd.R_ne HL154_0.out BK125.out (by decide))); have n2_ := Aside0.mk ((by rw [hw]; exact below_set (HB.out) GB48.out : Below w.heap.size w w52)); have n3_ := Aside0.mk (hm_); have n4_ := Aside0.mk ((Kd.R_reads' hm_).2.1); clear HO_4; clear BK125; clear HB; clear HL162; clear HL154_0; have HO_4 := n0_; have BK125 := n1_; have HB := n2_; have HL163 := n3_; have HC156 := n4_; clear n0_ n1_ n2_ n3_ n4_; clear hg hw hp_ hz_ hm_ hok51))
                                    (try simp only [← hl4_2])
                                    go_roundg k2
                                    case measure => have := HK1.out; have := HK2.out; omega
                                    case rel => exact ⟨(y157), (wrap64 (x22_2 + 1)), (by first | rfl | (simp; done) | (simp [*]; done)), H', ⟨by have := HK1.out; have := HK2.out; omega⟩, ⟨by (try simp only [hl4_2]); (with_reducible repeat (first | apply Kd.S_alloc | apply Kd.S_drewN | apply Kd.S_drew)); exact HO_4.out⟩, ⟨by (try simp only [hl4_2]); (with_reducible repeat (first | refine blk_drewN ?_ _ | refine blk_drew ?_ | refine blk_alloc ?_ _)); exact BK125.out⟩, ⟨by repeat (first | (with_reducible first | exact HB.out | apply below_alloc | apply pw_below_drewN | apply below_drew1 | refine below_set ?_ GE125.out) | exact HB.out)⟩⟩
                                  · rw [if_neg c47] at H
                                    exact absurd H (by simp)
                                · rw [if_neg c46] at H
                                  exact absurd H (by simp)
                              · rw [if_neg c44] at H
                                exact absurd H (by simp)
                            · rw [if_neg c43] at H
                              exact absurd H (by simp)
                          · rw [if_neg c42] at H
                            exact absurd H (by simp)
                        · rw [if_neg c41] at H
                          exact absurd H (by simp)
                      · rw [if_neg c39] at H
                        have c39b0 : decide (x5_1 < (wrap64 (Int.tdiv x22_2 2))) = false := decide_eq_false c39
                        clear c39
                        have H' := Aside0.mk H
                        clear H
                        go_wp2
                        (try simp only [← hl4_2])
                        go_roundg k2
                        case measure => have := HK1.out; have := HK2.out; omega
                        case rel => exact ⟨(x4_2), (wrap64 (x22_2 + 1)), (by first | rfl | (simp; done) | (simp [*]; done)), H', ⟨by have := HK1.out; have := HK2.out; omega⟩, ⟨by (try simp only [hl4_2]); (with_reducible repeat (first | apply Kd.S_alloc | apply Kd.S_drewN | apply Kd.S_drew)); exact HO_4.out⟩, ⟨by (try simp only [hl4_2]); (with_reducible repeat (first | refine blk_drewN ?_ _ | refine blk_drew ?_ | refine blk_alloc ?_ _)); exact BK125.out⟩, ⟨by repeat (first | (with_reducible first | exact HB.out | apply below_alloc | apply pw_below_drewN | apply below_drew1 | refine below_set ?_ GE125.out) | exact HB.out)⟩⟩
              · rw [if_neg c9] at H
                have c9b0 : decide (x22_2 < (x4_1.length : Int)) = false := decide_eq_false c9
                (try (have c9b0_0 := c9b0; simp only [hl4_2] at c9b0_0))
                clear c9
                have H' := Aside0.mk H
                clear H
                go_wp2
                (try simp only [← hl4_2])
                go_roundg k2
                case measure => have := HK1.out; have := HK2.out; omega
                case rel => exact ⟨(x4_2), (wrap64 (x5_1 + 1)), (by first | rfl | (simp; done) | (simp [*]; done)), H', ⟨by have := HK1.out; have := HK2.out; omega⟩, ⟨by (try simp only [hl4_2]); (with_reducible repeat (first | apply Kd.S_alloc | apply Kd.S_drewN | apply Kd.S_drew)); exact HO_4.out⟩, ⟨by (try simp only [hl4_2]); (with_reducible repeat (first | refine blk_drewN ?_ _ | refine blk_drew ?_ | refine blk_alloc ?_ _)); exact BK125.out⟩, ⟨by repeat (first | (with_reducible first | exact HB.out | apply below_alloc | apply pw_below_drewN | apply below_drew1 | refine below_set ?_ GE125.out) | exact HB.out)⟩⟩
        · rw [if_neg c7] at H
          have c7b0 : decide (x5_1 < a0) = false := decide_eq_false c7
          clear c7
          replace H := Option.bind_eq_some_iff.mp H
          obtain ⟨⟨t130, t131⟩, A530, H⟩ := H
          replace H : (some (t130, t131, true)) = some (r1, r2, r3) := H
          have A53 := Aside0.mk A530
          clear A530
          simp only [Option.some.injEq, Prod.mk.injEq] at H
          obtain ⟨rfl, rfl, rfl⟩ := H
          obtain ⟨Ao54, co54, eo54⟩ := Kd.S_slice HO_4.out
          subst eo54
          go_wp2_with (first | ((with_reducible refine gate_callee (f := 57) rfl ?_); refine goesL_ (some 60) rfl rfl Try.func57 (by kernel_rfl) rfl #[.slice Ao54 x4_1.length co54] rfl (by (try simp only [List.map_toArray, List.map_cons, List.map_nil]); first | done | rfl | (simp only [List.length_drop, List.length_take]; rfl)) ?_; (with_reducible refine (spec_paOf.calls k1 _ _ x4_1 t130 t131 _ ?side1 ?side2 A53.out).mono ?_); (case side1 => repeat (first | exact (Kd.S_reads' HO_4.out).2.2 | (with_reducible refine Kd.C_alloc ?_ _) | (with_reducible refine Kd.C_drewN ?_ _) | (with_reducible refine Kd.C_drew ?_))); (case side2 => exact (Kd.S_reads' HO_4.out).2.1); rintro e w55 ⟨v132, rfl, ho0, hb⟩; refine ⟨_, rfl, ?_⟩; have n0_ := Aside0.mk (Kd.S_below (by (with_reducible repeat (first | apply Kd.S_alloc | apply Kd.S_drewN | apply Kd.S_drew)); exact HO_4.out) hb); have n1_ := Aside0.mk (Kd.R_lower ho0 (below_size (by repeat (first | (with_reducible first | exact HB.out | apply below_alloc | apply pw_below_drewN | apply below_drew1 | refine below_set ?_ GE125.out) | exact HB.out)))); have n2_ := Aside0.mk (blk_below (g := gb125) (o := .cells #[.int .i64 0, .slice none 0 0] 24 (0, 0)) (by (with_reducible repeat (first | refine blk_drewN ?_ _ | refine blk_drew ?_ | refine blk_alloc ?_ _)); exact BK125.out) hb); have n3_ := Aside0.mk (below_step (by repeat (first | (with_reducible first | exact HB.out | apply below_alloc | apply pw_below_drewN | apply below_drew1 | refine below_set ?_ GE125.out) | exact HB.out)) hb); clear HO_4; clear BK125; clear HB; have HO_4 := n0_; have HO133 := n1_; have BK125 := n2_; have HB := n3_; clear n0_ n1_ n2_ n3_; (try clear hb); (try clear hb2); (try clear hk); (try clear hi); (try clear ho0); have hcz56_0 : w55.cell? ⟨gb125, 0, none⟩ = some (.int .i64 0) := (blk_cell BK125.out 0).trans rfl; have hcz56_1 : w55.cell? ⟨gb125, 1, none⟩ = some (.slice none 0 0) := (blk_cell BK125.out 1).trans rfl; have hfz56_0 := blk_frozen BK125.out 0; have hfz56_1 := blk_frozen BK125.out 1; obtain ⟨Ao57, co57, eo57⟩ := Kd.R_slice HO133.out; subst eo57))
          refine bodyPost_ret (results_ct rfl _ _ gb125 24 #[.int .i64 t130, .slice Ao57 t131.length co57] (0, 0) _ rfl (by (with_reducible repeat (first | refine blk_drewN ?_ _ | refine blk_drew ?_ | refine blk_alloc ?_ _)); refine blk_put (cs := #[.int .i64 t130, .slice none 0 0]) ?_ 1 _ rfl; (with_reducible repeat (first | refine blk_drewN ?_ _ | refine blk_drew ?_ | refine blk_alloc ?_ _)); refine blk_put (cs := #[.int .i64 0, .slice none 0 0]) ?_ 0 _ rfl; (with_reducible repeat (first | refine blk_drewN ?_ _ | refine blk_drew ?_ | refine blk_alloc ?_ _)); exact BK125.out) Try.underlying24 rfl (by kernel_rfl)) rfl ?_
          exact ⟨_, by first | rfl | (simp [errW_none, errW_some] <;> rfl) | (simp [*, errW_none, errW_some] <;> rfl), by (with_reducible repeat (first | apply Kd.R_alloc | apply Kd.R_drewN | apply Kd.R_drew)); exact Kd.R_mono (Kd.R_far (p := ⟨gb125, 1, none⟩) (Kd.R_far (p := ⟨gb125, 0, none⟩) (Kd.R_types HO133.out BK125.out (by decide)) (fun _ hk => hk.2) (.int .i64 t130)) (fun _ hk => hk.2) (.slice Ao57 t131.length co57)) (fun _ hk => trivial), by repeat (first | (with_reducible first | exact HB.out | apply below_alloc | apply pw_below_drewN | apply below_drew1 | refine below_set ?_ GE125.out) | exact HB.out)⟩
  · replace c3 := Bool.eq_false_iff.mpr c3
    subst c3
    have H1 : (some (0, ([] : List (S91)), false)) = some (r1, r2, r3) := by rw [if_neg (show ¬ (false = true) by decide)] at H; exact H
    clear H
    have H := H1
    clear H1
    simp only [Option.some.injEq, Prod.mk.injEq] at H
    obtain ⟨rfl, rfl, rfl⟩ := H
    go_enter Try.func14, Try.ntmps14
    go_wp2_with (first | ((with_reducible refine gate_dst (N := 2) rfl ?_); refine box_event ?hg (N := 2) ?hd (cs := #[.int .i64 0, .slice none 0 0]) (t := 24) ?hr ?_; (case hd => rfl); (case hg => rfl); (case hr => first | (go_simp; done) | (go_simp; rfl)); intro gb125 hg w58 hbox hb; have n0_ := Aside0.mk (below_step (by repeat (first | (with_reducible first | exact HB.out | apply below_alloc | apply pw_below_drewN | apply below_drew1) | exact HB.out)) hb); have n1_ := Aside0.mk (hbox); have n2_ := Aside0.mk ((by rw [hg]; exact (below_size (by repeat (first | (with_reducible first | exact HB.out | apply below_alloc | apply pw_below_drewN | apply below_drew1) | exact HB.out))) : w.heap.size ≤ gb125)); have n3_ := Aside0.mk ((by rw [hg]; exact (below_size (by repeat (first | (with_reducible first | exact HB.out | apply below_alloc | apply pw_below_drewN | apply below_drew1) | exact HB.out))) : w.heap.size ≤ gb125)); clear HB; have HB := n0_; have BK125 := n1_; have GW125 := n2_; have GE125 := n3_; clear n0_ n1_ n2_ n3_; clear hb hbox hg) | ((with_reducible refine gate_callee (f := 55) rfl ?_); refine goesL_ (some 8) rfl rfl Try.func55 (by kernel_rfl) rfl #[.int .i64 a0, .int .i64 1, .int .i64 6] rfl (by (try simp only [List.map_toArray, List.map_cons, List.map_nil]); first | done | rfl | (simp only [List.length_drop, List.length_take]; rfl)) ?_; (with_reducible refine (spec_l1In.calls a0 1 6 false _ A2.out).mono ?_); rintro e w' ⟨rfl, ⟨nd, rfl⟩⟩; refine ⟨_, rfl, ?_⟩; (try (rw [drewN_self w58]; generalize hq_ : World.drewN w58 _ = w58; have n0_ : Aside0 (w58.heap[gb125]? = some (.cells #[.int .i64 0, .slice none 0 0] 24 (0, 0))) := ⟨by rw [← hq_]; exact (by (with_reducible repeat (first | refine blk_drewN ?_ _ | refine blk_drew ?_ | refine blk_alloc ?_ _)); exact BK125.out)⟩; have n1_ : Aside0 (Below w.heap.size w w58) := ⟨by rw [← hq_]; exact (by repeat (first | (with_reducible first | exact HB.out | apply below_alloc | apply pw_below_drewN | apply below_drew1 | refine below_set ?_ GE125.out) | exact HB.out))⟩; clear BK125 HB hq_; have BK125 := n0_; have HB := n1_; clear n0_ n1_)); have hcz59_0 : w58.cell? ⟨gb125, 0, none⟩ = some (.int .i64 0) := (blk_cell BK125.out 0).trans rfl; have hcz59_1 : w58.cell? ⟨gb125, 1, none⟩ = some (.slice none 0 0) := (blk_cell BK125.out 1).trans rfl; have hfz59_0 := blk_frozen BK125.out 0; have hfz59_1 := blk_frozen BK125.out 1))
    refine bodyPost_ret (results_ct rfl _ _ gb125 24 #[.int .i64 0, .slice none 0 0] (0, 0) _ rfl (by (with_reducible repeat (first | refine blk_drewN ?_ _ | refine blk_drew ?_ | refine blk_alloc ?_ _)); refine blk_put (cs := #[.int .i64 0, .slice none 0 0]) ?_ 1 _ rfl; (with_reducible repeat (first | refine blk_drewN ?_ _ | refine blk_drew ?_ | refine blk_alloc ?_ _)); refine blk_put (cs := #[.int .i64 0, .slice none 0 0]) ?_ 0 _ rfl; (with_reducible repeat (first | refine blk_drewN ?_ _ | refine blk_drew ?_ | refine blk_alloc ?_ _)); exact BK125.out) Try.underlying24 rfl (by kernel_rfl)) rfl ?_
    exact ⟨_, by first | rfl | (simp [errW_none, errW_some] <;> rfl) | (simp [*, errW_none, errW_some] <;> rfl), by first | exact Kd.R_nil _ _ _ _ _ | exact Kd.N_nil _ _ _ _ _ | exact Kd.V_nil _ _ _ _ _ | exact Kd.Q_nil _ _ _ _ _ | exact Kd.S_nil _ _ _ _ _, by repeat (first | (with_reducible first | exact HB.out | apply below_alloc | apply pw_below_drewN | apply below_drew1 | refine below_set ?_ GE125.out) | exact HB.out)⟩

end Go.Proofs.Ytlacnnnmeolomaa.Q
