-- Written by wip/tools/gprint.py (the kit's print, with contracts of this session): Lean checks it.
import Derived.Test.YtghefgfacafboaaQ0
import Derived.Test.YtghefgfacafboaaQ1
import Derived.Test.YtghefgfacafboaaQ61
import Derived.Test.YtghefgfacafboaaQ122
namespace Go.Proofs.Ytghefgfacafboaa.Q
open Go.RowKit Go.Proofs.YtghefgfacafboaaW.PrintWords Go.Proofs.YtghefgfacafboaaW.PrintLast Go.Proofs.YtghefgfacafboaaW.PrintMore
attribute [local go_sem] max2_int min2_int max_two min_two max_three min_three max_four min_four   -- for this text's walks alone
set_option linter.unusedVariables false
set_option linter.unusedSimpArgs false

/-! ### spec_WindmillParty: function 50 -/
def spec_WindmillParty.l0 : Nat → Int → List (List Bool) → Int → Option (Int × (List (S70)) × Bool)
  | 0, _, _, _ => none
  | k + 1, x4, x5, x6 => if x6 < x4 then (if 0 < (x5.length : Int) then (if 0 ≤ x6 then (if x6 < ((rd_L5 x5 0).length : Int) then ((some (x5.set (0 : Int).toNat ((rd_L5 x5 0).set (x6 : Int).toNat true) : List (List Bool))).bind fun y619 => (if x6 < (x5.length : Int) then (if 0 < ((rd_L5 y619 x6).length : Int) then ((some (y619.set (x6 : Int).toNat ((rd_L5 y619 x6).set (0 : Int).toNat true) : List (List Bool))).bind fun y623 => (if 0 ≤ (wrap64 ((wrap64 (x6 - 1)) + (wrap64 (2 * (Int.tmod x6 2))))) then (if (wrap64 ((wrap64 (x6 - 1)) + (wrap64 (2 * (Int.tmod x6 2))))) < ((rd_L5 y623 x6).length : Int) then (spec_WindmillParty.l0 k x4 (y623.set (x6 : Int).toNat ((rd_L5 y623 x6).set ((wrap64 ((wrap64 (x6 - 1)) + (wrap64 (2 * (Int.tmod x6 2))))) : Int).toNat true)) (wrap64 (x6 + 1))) else (none)) else (none))) else (none)) else (none))) else (none)) else (none)) else (none)) else ((spec_paOf.f k x5).bind fun bt628 => (some (bt628.1, bt628.2, true)))
def spec_WindmillParty.f (k : Nat) (a0 : Int) : Option (Int × (List (S70)) × Bool) := (spec_l1In.f a0 0 5).bind fun t612 => (if t612 = true then ((spec_paTable.f k (wrap64 ((wrap64 (2 * a0)) + 1)) ([] : List (S70))).bind fun t613 => (spec_WindmillParty.l0 k (wrap64 ((wrap64 (2 * a0)) + 1)) t613 1)) else (some (0, ([] : List (S70)), false)))
theorem spec_WindmillParty.mono_l : ∀ k, (∀ y0 y1 y2, LeO (spec_WindmillParty.l0 k y0 y1 y2) (spec_WindmillParty.l0 (k + 1) y0 y1 y2))
  | 0 => fun _ _ _ r h => by simp [spec_WindmillParty.l0] at h
  | k + 1 => by
    have ih0 := spec_WindmillParty.mono_l k
    · intro y0 y1 y2
      unfold spec_WindmillParty.l0
      repeat' first
      | (with_reducible exact ih0 _ _ _)
      | (with_reducible exact spec_paOf.mono _ _)
      | (with_reducible exact spec_paTable.mono _ _ _)
      | (with_reducible exact LeO.refl _)
      | (with_reducible exact LeO.none _)
      | (with_reducible refine LeO.ite ?_ ?_)
      | (with_reducible refine LeO.bind ?_ (fun _ => ?_))
      | exact ih0 _ _ _
      | exact spec_paOf.mono _ _
      | exact spec_paTable.mono _ _ _
      | exact LeO.none _
      | refine LeO.ite ?_ ?_
      | refine LeO.bind ?_ (fun _ => ?_)
theorem spec_WindmillParty.mono : ∀ a0 k, LeO (spec_WindmillParty.f k a0) (spec_WindmillParty.f (k + 1) a0) := by
  intro a0 k
  have ih0 := spec_WindmillParty.mono_l k
  unfold spec_WindmillParty.f
  repeat' first
      | (with_reducible exact ih0 _ _ _)
      | (with_reducible exact spec_paOf.mono _ _)
      | (with_reducible exact spec_paTable.mono _ _ _)
      | (with_reducible exact LeO.refl _)
      | (with_reducible exact LeO.none _)
      | (with_reducible refine LeO.ite ?_ ?_)
      | (with_reducible refine LeO.bind ?_ (fun _ => ?_))
      | exact ih0 _ _ _
      | exact spec_paOf.mono _ _
      | exact spec_paTable.mono _ _ _
      | exact LeO.none _
      | refine LeO.ite ?_ ?_
      | refine LeO.bind ?_ (fun _ => ?_)
set_option maxHeartbeats 8000000 in
set_option maxRecDepth 100000 in
theorem spec_WindmillParty.calls (k : Nat) (a0 : Int) (r1 : Int) (r2 : List (S70)) (r3 : Bool) (w : World) (h : spec_WindmillParty.f k a0 = some (r1, r2, r3)) :
    Calls Try.prog 50 #[.int .i64 a0] w fun e w' => ∃ v1_ : Value, e = .returned (.tuple #[.agg #[.int .i64 r1, v1_], .bool r3]) ∧ Kd.R k70 70 w' w.heap.size (fun _ => True) v1_ r2 ∧ Below w.heap.size w w' := by
  have hu52 := Try.underlying52
  have HB := Aside0.mk (Below.refl w.heap.size w)
  have H : ((spec_l1In.f a0 0 5).bind fun t612 => (if t612 = true then ((spec_paTable.f k (wrap64 ((wrap64 (2 * a0)) + 1)) ([] : List (S70))).bind fun t613 => (spec_WindmillParty.l0 k (wrap64 ((wrap64 (2 * a0)) + 1)) t613 1)) else (some (0, ([] : List (S70)), false)))) = some (r1, r2, r3) := h
  clear h
  replace H := Option.bind_eq_some_iff.mp H
  obtain ⟨t612, A20, H⟩ := H
  replace H : (if t612 = true then ((spec_paTable.f k (wrap64 ((wrap64 (2 * a0)) + 1)) ([] : List (S70))).bind fun t613 => (spec_WindmillParty.l0 k (wrap64 ((wrap64 (2 * a0)) + 1)) t613 1)) else (some (0, ([] : List (S70)), false))) = some (r1, r2, r3) := H
  have A2 := Aside0.mk A20
  clear A20
  by_cases c3 : t612 = true
  · subst c3
    have H1 : ((spec_paTable.f k (wrap64 ((wrap64 (2 * a0)) + 1)) ([] : List (S70))).bind fun t613 => (spec_WindmillParty.l0 k (wrap64 ((wrap64 (2 * a0)) + 1)) t613 1)) = some (r1, r2, r3) := by rw [if_pos rfl] at H; exact H
    clear H
    have H := H1
    clear H1
    replace H := Option.bind_eq_some_iff.mp H
    obtain ⟨t613, A40, H⟩ := H
    replace H : (spec_WindmillParty.l0 k (wrap64 ((wrap64 (2 * a0)) + 1)) t613 1) = some (r1, r2, r3) := H
    have A4 := Aside0.mk A40
    clear A40
    have H' := Aside0.mk H
    clear H
    go_enter Try.func50, Try.ntmps50
    go_wp2_with (first | ((with_reducible refine gate_dst (N := 2) rfl ?_); refine box_event ?hg (N := 2) ?hd (cs := #[.int .i64 0, .slice none 0 0]) (t := 52) ?hr ?_; (case hd => rfl); (case hg => rfl); (case hr => first | (go_simp; done) | (go_simp; rfl)); intro gb611 hg w5 hbox hb; have n0_ := Aside0.mk (below_step (by repeat (first | (with_reducible first | exact HB.out | apply below_alloc | apply pw_below_drewN | apply below_drew1) | exact HB.out)) hb); have n1_ := Aside0.mk (hbox); have n2_ := Aside0.mk ((by rw [hg]; exact (below_size (by repeat (first | (with_reducible first | exact HB.out | apply below_alloc | apply pw_below_drewN | apply below_drew1) | exact HB.out))) : w.heap.size ≤ gb611)); have n3_ := Aside0.mk ((by rw [hg]; exact (below_size (by repeat (first | (with_reducible first | exact HB.out | apply below_alloc | apply pw_below_drewN | apply below_drew1) | exact HB.out))) : w.heap.size ≤ gb611)); clear HB; have HB := n0_; have BK611 := n1_; have GW611 := n2_; have GE611 := n3_; clear n0_ n1_ n2_ n3_; clear hb hbox hg) | ((with_reducible refine gate_callee (f := 54) rfl ?_); refine goesL_ (some 9) rfl rfl Try.func54 (by kernel_rfl) rfl #[.int .i64 a0, .int .i64 0, .int .i64 5] rfl (by (try simp only [List.map_toArray, List.map_cons, List.map_nil]); first | done | rfl | (simp only [List.length_drop, List.length_take]; rfl)) ?_; (with_reducible refine (spec_l1In.calls a0 0 5 true _ A2.out).mono ?_); rintro e w' ⟨rfl, ⟨nd, rfl⟩⟩; refine ⟨_, rfl, ?_⟩) | ((with_reducible refine gate_callee (f := 74) rfl ?_); refine goesL_ (some 17) rfl rfl Try.func74 (by kernel_rfl) rfl #[.agg #[.int .i64 (wrap64 ((wrap64 (2 * a0)) + 1)), .slice none 0 0]] rfl (by (try simp only [List.map_toArray, List.map_cons, List.map_nil]); first | done | rfl | (simp only [List.length_drop, List.length_take]; rfl)) ?_; (refine (spec_paTable.calls k (wrap64 ((wrap64 (2 * a0)) + 1)) _ _ ([] : List (S70)) t613 _ ?side1 ?side2 A4.out).mono ?_); (case side1 => exact Kd.C_nil _ _); (case side2 => exact Nat.le_refl _); rintro e w6 ⟨v614, rfl, ho0, hb⟩; refine ⟨_, rfl, ?_⟩; have n0_ := Aside0.mk (Kd.S_lower ho0 (below_size (by repeat (first | (with_reducible first | exact HB.out | apply below_alloc | apply pw_below_drewN | apply below_drew1 | refine below_set ?_ GE611.out) | exact HB.out)))); have n1_ := Aside0.mk (blk_below (g := gb611) (o := .cells #[.int .i64 0, .slice none 0 0] 52 (0, 0)) (by (with_reducible repeat (first | refine blk_drewN ?_ _ | refine blk_drew ?_ | refine blk_alloc ?_ _)); exact BK611.out) hb); have n2_ := Aside0.mk (below_step (by repeat (first | (with_reducible first | exact HB.out | apply below_alloc | apply pw_below_drewN | apply below_drew1 | refine below_set ?_ GE611.out) | exact HB.out)) hb); clear BK611; clear HB; have HO615 := n0_; have BK611 := n1_; have HB := n2_; clear n0_ n1_ n2_; (try clear hb); (try clear hb2); (try clear hk); (try clear hi); (try clear ho0)))
    go_loopg [6] k (fun kq v6 w' => ∃ (x5_1 : List (List Bool)) (x6_1 : Int), v6 = .int .i64 x6_1 ∧ Aside0 (spec_WindmillParty.l0 kq (wrap64 ((wrap64 (2 * a0)) + 1)) x5_1 x6_1 = some (r1, r2, r3)) ∧ Aside0 (kq ≤ k) ∧ Aside0 (Kd.S (Kd.slice 4 Kd.bool) 95 w' w.heap.size (fun _ => True) v614 x5_1) ∧ Aside0 (w'.heap[gb611]? = some (.cells #[.int .i64 0, (.slice none 0 0)] 52 (0, 0))) ∧ Aside0 (Below w.heap.size w w'))
    case atStart => exact ⟨(t613), (1), (by first | rfl | (simp; done) | (simp [*]; done)), H', ⟨Nat.le_refl _⟩, ⟨by (with_reducible repeat (first | apply Kd.S_alloc | apply Kd.S_drewN | apply Kd.S_drew)); exact HO615.out⟩, ⟨by (with_reducible repeat (first | refine blk_drewN ?_ _ | refine blk_drew ?_ | refine blk_alloc ?_ _)); exact BK611.out⟩, ⟨by repeat (first | (with_reducible first | exact HB.out | apply below_alloc | apply pw_below_drewN | apply below_drew1 | refine below_set ?_ GE611.out) | exact HB.out)⟩⟩
    case round =>
      clear H'
      try clear p2
      try clear c3
      try clear c5
      try clear p6
      obtain ⟨x5_1, x6_1, rfl, HA, HK1, HO_5, BK611, HB⟩ := hrel
      cases gk with
      | zero => exact absurd HA.out (by simp [spec_WindmillParty.l0])
      | succ k1 =>
        have H := HA.out
        clear HA
        simp only [spec_WindmillParty.l0] at H
        by_cases c7 : x6_1 < (wrap64 ((wrap64 (2 * a0)) + 1))
        · rw [if_pos c7] at H
          have c7b0 : decide (x6_1 < (wrap64 ((wrap64 (2 * a0)) + 1))) = true := decide_eq_true c7
          clear c7
          by_cases c8 : 0 < (x5_1.length : Int)
          · rw [if_pos c8] at H
            have c8b0 : decide (0 < (x5_1.length : Int)) = true := decide_eq_true c8
            have c8b1 : decide (0 < x5_1.length) = true := decide_eq_true (by omega)
            clear c8
            by_cases c9 : 0 ≤ x6_1
            · rw [if_pos c9] at H
              have c9b0 : decide (0 ≤ x6_1) = true := decide_eq_true c9
              clear c9
              by_cases c10 : x6_1 < ((rd_L5 x5_1 0).length : Int)
              · rw [if_pos c10] at H
                have c10b0 : decide (x6_1 < ((rd_L5 x5_1 0).length : Int)) = true := decide_eq_true c10
                clear c10
                obtain ⟨y617, hy617⟩ : ∃ y_ : List Bool, y_ = ((rd_L5 x5_1 0).set (x6_1 : Int).toNat true) := ⟨_, rfl⟩
                replace H : ((some (x5_1.set (0 : Int).toNat y617 : List (List Bool))).bind fun y619 => (if x6_1 < (x5_1.length : Int) then (if 0 < ((rd_L5 y619 x6_1).length : Int) then ((some (y619.set (x6_1 : Int).toNat ((rd_L5 y619 x6_1).set (0 : Int).toNat true) : List (List Bool))).bind fun y623 => (if 0 ≤ (wrap64 ((wrap64 (x6_1 - 1)) + (wrap64 (2 * (Int.tmod x6_1 2))))) then (if (wrap64 ((wrap64 (x6_1 - 1)) + (wrap64 (2 * (Int.tmod x6_1 2))))) < ((rd_L5 y623 x6_1).length : Int) then (spec_WindmillParty.l0 k1 (wrap64 ((wrap64 (2 * a0)) + 1)) (y623.set (x6_1 : Int).toNat ((rd_L5 y623 x6_1).set ((wrap64 ((wrap64 (x6_1 - 1)) + (wrap64 (2 * (Int.tmod x6_1 2))))) : Int).toNat true)) (wrap64 (x6_1 + 1))) else (none)) else (none))) else (none)) else (none))) = some (r1, r2, r3) := by first | (rw [hy617]; with_reducible exact H) | (have H2_ := (Option.bind_some _ _).symm.trans H; rw [hy617]; with_reducible exact H2_) | (have H2_ := (Option.bind_some _ _).symm.trans H; with_reducible exact H2_) | with_reducible exact H | (rw [hy617]; exact H) | exact H
                have Ny617 := Aside0.mk hy617
                clear hy617
                obtain ⟨y619, hy619⟩ : ∃ y_ : List (List Bool), y_ = (x5_1.set (0 : Int).toNat y617) := ⟨_, rfl⟩
                replace H : (if x6_1 < (x5_1.length : Int) then (if 0 < ((rd_L5 y619 x6_1).length : Int) then ((some (y619.set (x6_1 : Int).toNat ((rd_L5 y619 x6_1).set (0 : Int).toNat true) : List (List Bool))).bind fun y623 => (if 0 ≤ (wrap64 ((wrap64 (x6_1 - 1)) + (wrap64 (2 * (Int.tmod x6_1 2))))) then (if (wrap64 ((wrap64 (x6_1 - 1)) + (wrap64 (2 * (Int.tmod x6_1 2))))) < ((rd_L5 y623 x6_1).length : Int) then (spec_WindmillParty.l0 k1 (wrap64 ((wrap64 (2 * a0)) + 1)) (y623.set (x6_1 : Int).toNat ((rd_L5 y623 x6_1).set ((wrap64 ((wrap64 (x6_1 - 1)) + (wrap64 (2 * (Int.tmod x6_1 2))))) : Int).toNat true)) (wrap64 (x6_1 + 1))) else (none)) else (none))) else (none)) else (none)) = some (r1, r2, r3) := by first | (rw [hy619]; with_reducible exact H) | (have H2_ := (Option.bind_some _ _).symm.trans H; rw [hy619]; with_reducible exact H2_) | (have H2_ := (Option.bind_some _ _).symm.trans H; with_reducible exact H2_) | with_reducible exact H | (rw [hy619]; exact H) | exact H
                have Ny619 := Aside0.mk hy619
                clear hy619
                by_cases c12 : x6_1 < (x5_1.length : Int)
                · rw [if_pos c12] at H
                  have c12b0 : decide (x6_1 < (x5_1.length : Int)) = true := decide_eq_true c12
                  clear c12
                  by_cases c13 : 0 < ((rd_L5 y619 x6_1).length : Int)
                  · rw [if_pos c13] at H
                    have c13b0 : decide (0 < ((rd_L5 y619 x6_1).length : Int)) = true := decide_eq_true c13
                    have c13b1 : decide (0 < (rd_L5 y619 x6_1).length) = true := decide_eq_true (by omega)
                    clear c13
                    obtain ⟨y621, hy621⟩ : ∃ y_ : List Bool, y_ = ((rd_L5 y619 x6_1).set (0 : Int).toNat true) := ⟨_, rfl⟩
                    replace H : ((some (y619.set (x6_1 : Int).toNat y621 : List (List Bool))).bind fun y623 => (if 0 ≤ (wrap64 ((wrap64 (x6_1 - 1)) + (wrap64 (2 * (Int.tmod x6_1 2))))) then (if (wrap64 ((wrap64 (x6_1 - 1)) + (wrap64 (2 * (Int.tmod x6_1 2))))) < ((rd_L5 y623 x6_1).length : Int) then (spec_WindmillParty.l0 k1 (wrap64 ((wrap64 (2 * a0)) + 1)) (y623.set (x6_1 : Int).toNat ((rd_L5 y623 x6_1).set ((wrap64 ((wrap64 (x6_1 - 1)) + (wrap64 (2 * (Int.tmod x6_1 2))))) : Int).toNat true)) (wrap64 (x6_1 + 1))) else (none)) else (none))) = some (r1, r2, r3) := by first | (rw [hy621]; with_reducible exact H) | (have H2_ := (Option.bind_some _ _).symm.trans H; rw [hy621]; with_reducible exact H2_) | (have H2_ := (Option.bind_some _ _).symm.trans H; with_reducible exact H2_) | with_reducible exact H | (rw [hy621]; exact H) | exact H
                    have Ny621 := Aside0.mk hy621
                    clear hy621
                    obtain ⟨y623, hy623⟩ : ∃ y_ : List (List Bool), y_ = (y619.set (x6_1 : Int).toNat y621) := ⟨_, rfl⟩
                    replace H : (if 0 ≤ (wrap64 ((wrap64 (x6_1 - 1)) + (wrap64 (2 * (Int.tmod x6_1 2))))) then (if (wrap64 ((wrap64 (x6_1 - 1)) + (wrap64 (2 * (Int.tmod x6_1 2))))) < ((rd_L5 y623 x6_1).length : Int) then (spec_WindmillParty.l0 k1 (wrap64 ((wrap64 (2 * a0)) + 1)) (y623.set (x6_1 : Int).toNat ((rd_L5 y623 x6_1).set ((wrap64 ((wrap64 (x6_1 - 1)) + (wrap64 (2 * (Int.tmod x6_1 2))))) : Int).toNat true)) (wrap64 (x6_1 + 1))) else (none)) else (none)) = some (r1, r2, r3) := by first | (rw [hy623]; with_reducible exact H) | (have H2_ := (Option.bind_some _ _).symm.trans H; rw [hy623]; with_reducible exact H2_) | (have H2_ := (Option.bind_some _ _).symm.trans H; with_reducible exact H2_) | with_reducible exact H | (rw [hy623]; exact H) | exact H
                    have Ny623 := Aside0.mk hy623
                    clear hy623
                    obtain ⟨ji15, hji15⟩ : ∃ j_ : Int, (wrap64 ((wrap64 (x6_1 - 1)) + (wrap64 (2 * (Int.tmod x6_1 2))))) = j_ := ⟨_, rfl⟩
                    replace H : (if 0 ≤ (ji15) then (if (ji15) < ((rd_L5 y623 x6_1).length : Int) then (spec_WindmillParty.l0 k1 (wrap64 ((wrap64 (2 * a0)) + 1)) (y623.set (x6_1 : Int).toNat ((rd_L5 y623 x6_1).set ((ji15) : Int).toNat true)) (wrap64 (x6_1 + 1))) else (none)) else (none)) = some (r1, r2, r3) := by first | (rw [hji15] at H; exact H) | (simp only [hji15] at H ⊢; exact H)
                    have hji15w : (IntKind.i64.wrap ((wrap64 (x6_1 - 1)) + (wrap64 (2 * (Int.tmod x6_1 2))))) = ji15 := (i64_w _).trans hji15
                    by_cases c16 : 0 ≤ (ji15)
                    · rw [if_pos c16] at H
                      have c16b0 : decide (0 ≤ (ji15)) = true := decide_eq_true c16
                      clear c16
                      by_cases c17 : (ji15) < ((rd_L5 y623 x6_1).length : Int)
                      · rw [if_pos c17] at H
                        have c17b0 : decide ((ji15) < ((rd_L5 y623 x6_1).length : Int)) = true := decide_eq_true c17
                        clear c17
                        obtain ⟨y625, hy625⟩ : ∃ y_ : List Bool, y_ = ((rd_L5 y623 x6_1).set ((ji15) : Int).toNat true) := ⟨_, rfl⟩
                        replace H : (spec_WindmillParty.l0 k1 (wrap64 ((wrap64 (2 * a0)) + 1)) (y623.set (x6_1 : Int).toNat y625) (wrap64 (x6_1 + 1))) = some (r1, r2, r3) := by first | (rw [hy625]; with_reducible exact H) | (have H2_ := (Option.bind_some _ _).symm.trans H; rw [hy625]; with_reducible exact H2_) | (have H2_ := (Option.bind_some _ _).symm.trans H; with_reducible exact H2_) | with_reducible exact H | (rw [hy625]; exact H) | exact H
                        have Ny625 := Aside0.mk hy625
                        clear hy625
                        obtain ⟨y627, hy627⟩ : ∃ y_ : List (List Bool), y_ = (y623.set (x6_1 : Int).toNat y625) := ⟨_, rfl⟩
                        replace H : (spec_WindmillParty.l0 k1 (wrap64 ((wrap64 (2 * a0)) + 1)) y627 (wrap64 (x6_1 + 1))) = some (r1, r2, r3) := by first | (rw [hy627]; with_reducible exact H) | (have H2_ := (Option.bind_some _ _).symm.trans H; rw [hy627]; with_reducible exact H2_) | (have H2_ := (Option.bind_some _ _).symm.trans H; with_reducible exact H2_) | with_reducible exact H | (rw [hy627]; exact H) | exact H
                        have Ny627 := Aside0.mk hy627
                        clear hy627
                        have H' := Aside0.mk H
                        clear H
                        obtain ⟨Ao19, co19, eo19⟩ := Kd.S_slice HO_5.out
                        subst eo19
                        have p616 : 0 ≤ (0 : Int) := (by omega)
                        have q616 : 0 < (x5_1.length : Int) := of_decide_eq_true (by first | (with_reducible assumption) | assumption)
                        obtain ⟨ad616, A616_0, c616_0, e616, hx616_0, hl616_0, hi616_0⟩ := at_L5 (Kd.S_reads' HO_5.out).2.2 0 p616 q616
                        cases e616
                        obtain ⟨ce616, hce616, hMe616, hcc616⟩ := Kd.S_get HO_5.out [] 0 p616 (by first | exact q616 | exact of_decide_eq_true (by first | (with_reducible assumption) | assumption) | (have e_ := (Kd.S_reads' HO_5.out).1; omega))
                        obtain ⟨ve616_0, rfl, ge616_0⟩ := hMe616
                        have hv616_0 := hcc616 0 _ rfl
                        rw [Nat.add_zero, show ((Kd.slice 4 Kd.bool)).sz = 1 from rfl, Nat.mul_one] at hv616_0
                        replace hv616_0 := Option.some.inj (hv616_0.symm.trans hx616_0)
                        rw [hv616_0] at ge616_0
                        have HL616_0 := Aside0.mk (show Kd.R Kd.bool 4 _ _ _ _ (rd_L5 x5_1 0) from ge616_0)
                        clear hv616_0 ge616_0
                        have HX616_0 := Aside0.mk hx616_0
                        clear hcc616 hce616
                        have qi616 : (0 < x5_1.length) = True := eq_true (by omega)
                        (try rw [show ((0 : Int)).toNat = 0 from rfl] at hx616_0)
                        (try rw [Addr.add_zero'] at hx616_0)
                        have HR616_0 := Aside0.mk hi616_0
                        have HC616_0 := Aside0.mk hl616_0
                        clear hi616_0 hl616_0
                        replace p616 := eq_true p616
                        replace q616 := eq_true q616
                        have p11 : 0 ≤ (x6_1 : Int) := of_decide_eq_true (by first | (with_reducible assumption) | assumption)
                        have q11 : (x6_1 : Int) < (((rd_L5 x5_1 0).length : Int) : Int) := of_decide_eq_true (by first | (with_reducible assumption) | assumption)
                        obtain ⟨go11, co11, eo11, gb11, gl11, cl11, HG11⟩ := Kd.R_form HL616_0.out (by omega)
                        (first | cases eo11 | (injection eo11 with ea_ en_ ec_; (first | subst ea_ | (injection ea_ with ea_; subst ea_)); subst ec_; clear en_))
                        have GB11 := Aside0.mk gb11
                        have GG11 := Aside0.mk HG11
                        clear gb11 gl11 HG11
                        obtain ⟨hx11_0, hf11_0⟩ := Kd.R_celln false HL616_0.out (x6_1 : Int) p11 q11
                        replace p11 := eq_true p11
                        replace q11 := eq_true q11
                        have hq20 : (0 : Int) < (x5_1.length : Int) := (by have h_ : (0 : Int) < ((x5_1.length : Int) : Int) := of_decide_eq_true (by first | (with_reducible assumption) | assumption); first | exact h_ | (have e_ := (Kd.S_reads' HO_5.out).1; omega) | simpa only [List.length_set, List.length_set] using h_)
                        obtain ⟨oki20, ce20, hcl20, hM20, hcc20, hok20, hbk20⟩ := Kd.S_borrow HO_5.out [] (0 : Int) (by omega) (by first | exact hq20 | exact of_decide_eq_true (by first | (with_reducible assumption) | assumption) | (have e_ := (Kd.S_reads' HO_5.out).1; omega))
                        obtain ⟨ve20_0, rfl, ge20_0⟩ := hM20
                        have hv20 := hcc20 0 _ rfl
                        rw [Nat.add_zero, show ((Kd.slice 4 Kd.bool)).sz = 1 from rfl, Nat.mul_one] at hv20
                        replace hv20 := Option.some.inj (hv20.symm.trans HX616_0.out)
                        subst hv20
                        clear hcc20 hcl20
                        replace ge20_0 := (show Kd.R Kd.bool 4 _ _ _ _ (rd_L5 x5_1 0) from ge20_0)
                        have HP20 := Kd.R_putg ge20_0 (x6_1 : Int) true
                        go_wp2_with (first | ((with_reducible refine gate_store (t := 4) (p := 27) rfl ?_); refine store_event (t := 4) (p := 27) (v := ?vo_w21) (w1 := (wr.setCell ⟨go11, (x6_1 : Int).toNat, none⟩ (.bool true))) ?hg ?ho ?hn ?hr ?_; (case ho => rfl); (case hg => rfl); (case hn => rfl); (case hr => first | (go_simp; done) | (go_simp; rfl)); intro w21 hw; have hg : wr.grownBy w21 (some go11) := (by rw [hw]; exact HP20.2); have hz_ : Kd.R Kd.bool 4 w21 w.heap.size oki20 (.slice (some ⟨go11, 0, none⟩) (rd_L5 x5_1 0).length c616_0) y617 := (by rw [hw, Ny617.out]; exact HP20.1); have hp_ : Kd.S (Kd.slice 4 Kd.bool) 95 w21 w.heap.size (fun _ => True) (.slice (some ad616) x5_1.length co19) y619 := (by rw [Ny619.out]; exact hbk20 hg (fun k_ e_ => by injection e_ with e_; subst e_; exact ge20_0.1 _ rfl) (Kd.M_row hz_)); have hm_ := Kd.R_mono hz_ hok20; clear HP20 hbk20; have n0_ := Aside0.mk (hp_); have n1_ := Aside0.mk (blk_grown (g := gb611) (o := .cells #[.int .i64 0, .slice none 0 0] 52 (0, 0)) (by (with_reducible repeat (first | refine blk_drewN ?_ _ | refine blk_drew ?_ | refine blk_alloc ?_ _)); exact BK611.out) hg (Kd.R_ne HL616_0.out BK611.out (by decide))); have n2_ := Aside0.mk ((by rw [hw]; exact below_set (HB.out) GB11.out : Below w.heap.size w w21)); have n3_ := Aside0.mk (hm_); have n4_ := Aside0.mk ((Kd.R_reads' hm_).2.1); clear HO_5; clear BK611; clear HB; clear HL616_0; have HO_5 := n0_; have BK611 := n1_; have HB := n2_; have HL632 := n3_; have HC618 := n4_; clear n0_ n1_ n2_ n3_ n4_; clear hg hw hp_ hz_ hm_ hok20; have p620 : 0 ≤ (x6_1 : Int) := of_decide_eq_true (by first | (with_reducible assumption) | assumption); have q620 : x6_1 < (y619.length : Int) := (by have h_ : (x6_1 : Int) < ((x5_1.length : Int) : Int) := of_decide_eq_true (by first | (with_reducible assumption) | assumption); first | (have e_ := (Kd.S_reads' HO_5.out).1; omega) | simpa only [Ny619.out, List.length_set] using h_); have ql620 : ((x6_1 : Int) < ((x5_1.length : Int) : Int)) = True := eq_true (of_decide_eq_true (by first | (with_reducible assumption) | assumption)); obtain ⟨ad620, A620_0, c620_0, e620, hx620_0, hl620_0, hi620_0⟩ := at_L5 (Kd.S_reads' HO_5.out).2.2 x6_1 p620 q620; obtain rfl : ad616 = ad620 := (by injection e620); obtain ⟨ce620, hce620, hMe620, hcc620⟩ := Kd.S_get HO_5.out [] x6_1 p620 (by first | exact q620 | exact of_decide_eq_true (by first | (with_reducible assumption) | assumption) | (have e_ := (Kd.S_reads' HO_5.out).1; omega)); obtain ⟨ve620_0, rfl, ge620_0⟩ := hMe620; have hv620_0 := hcc620 0 _ rfl; rw [Nat.add_zero, show ((Kd.slice 4 Kd.bool)).sz = 1 from rfl, Nat.mul_one] at hv620_0; replace hv620_0 := Option.some.inj (hv620_0.symm.trans hx620_0); rw [hv620_0] at ge620_0; have HL620_0 := Aside0.mk (show Kd.R Kd.bool 4 _ _ _ _ (rd_L5 y619 x6_1) from ge620_0); clear hv620_0 ge620_0; have HX620_0 := Aside0.mk hx620_0; clear hcc620 hce620; have HR620_0 := Aside0.mk hi620_0; have HC620_0 := Aside0.mk hl620_0; clear hi620_0 hl620_0; replace p620 := eq_true p620; replace q620 := eq_true q620; have p14 : 0 ≤ (0 : Int) := (by omega); have q14 : (0 : Int) < (((rd_L5 y619 x6_1).length : Int) : Int) := of_decide_eq_true (by first | (with_reducible assumption) | assumption); have qi14 : (0 < (rd_L5 y619 x6_1).length) = True := eq_true (by omega); obtain ⟨go14, co14, eo14, gb14, gl14, cl14, HG14⟩ := Kd.R_form HL620_0.out (by omega); (first | cases eo14 | (injection eo14 with ea_ en_ ec_; (first | subst ea_ | (injection ea_ with ea_; subst ea_)); subst ec_; clear en_)); have GB14 := Aside0.mk gb14; have GG14 := Aside0.mk HG14; clear gb14 gl14 HG14; obtain ⟨hx14_0, hf14_0⟩ := Kd.R_celln false HL620_0.out (0 : Int) p14 q14; (try rw [show ((0 : Int)).toNat = 0 from rfl] at hx14_0); (try simp only [Nat.reduceMul, Nat.zero_mul, Nat.zero_add, Nat.reduceAdd] at hx14_0); (try rw [show ((0 : Int)).toNat = 0 from rfl] at hf14_0); (try simp only [Nat.reduceMul, Nat.zero_mul, Nat.zero_add, Nat.reduceAdd] at hf14_0); replace p14 := eq_true p14; replace q14 := eq_true q14; have hq22 : (x6_1 : Int) < (y619.length : Int) := (by have h_ : (x6_1 : Int) < ((x5_1.length : Int) : Int) := of_decide_eq_true (by first | (with_reducible assumption) | assumption); first | exact h_ | (have e_ := (Kd.S_reads' HO_5.out).1; omega) | simpa only [Ny619.out, List.length_set] using h_); obtain ⟨oki22, ce22, hcl22, hM22, hcc22, hok22, hbk22⟩ := Kd.S_borrow HO_5.out [] (x6_1 : Int) (of_decide_eq_true (by first | (with_reducible assumption) | assumption)) (by first | exact hq22 | exact of_decide_eq_true (by first | (with_reducible assumption) | assumption) | (have e_ := (Kd.S_reads' HO_5.out).1; omega)); obtain ⟨ve22_0, rfl, ge22_0⟩ := hM22; have hv22 := hcc22 0 _ rfl; rw [Nat.add_zero, show ((Kd.slice 4 Kd.bool)).sz = 1 from rfl, Nat.mul_one] at hv22; replace hv22 := Option.some.inj (hv22.symm.trans HX620_0.out); subst hv22; clear hcc22 hcl22; replace ge22_0 := (show Kd.R Kd.bool 4 _ _ _ _ (rd_L5 y619 x6_1) from ge22_0); have HP22 := Kd.R_putg ge22_0 (0 : Int) true) | ((with_reducible refine gate_store (t := 4) (p := 32) rfl ?_); refine store_event (t := 4) (p := 32) (v := ?vo_w23) (w1 := (w21.setCell ⟨go14, 0, none⟩ (.bool true))) ?hg ?ho ?hn ?hr ?_; (case ho => rfl); (case hg => rfl); (case hn => rfl); (case hr => first | (go_simp; done) | (go_simp; rfl)); intro w23 hw; have hg : w21.grownBy w23 (some go14) := (by rw [hw]; exact HP22.2); have hz_ : Kd.R Kd.bool 4 w23 w.heap.size oki22 (.slice (some ⟨go14, 0, none⟩) (rd_L5 y619 x6_1).length c620_0) y621 := (by rw [hw, Ny621.out]; exact HP22.1); have hp_ : Kd.S (Kd.slice 4 Kd.bool) 95 w23 w.heap.size (fun _ => True) (.slice (some ad616) x5_1.length co19) y623 := (by rw [Ny623.out]; exact hbk22 hg (fun k_ e_ => by injection e_ with e_; subst e_; exact ge22_0.1 _ rfl) (Kd.M_row hz_)); have hm_ := Kd.R_mono hz_ hok22; clear HP22 hbk22; have n0_ := Aside0.mk (hp_); have n1_ := Aside0.mk (blk_grown (g := gb611) (o := .cells #[.int .i64 0, .slice none 0 0] 52 (0, 0)) (by (with_reducible repeat (first | refine blk_drewN ?_ _ | refine blk_drew ?_ | refine blk_alloc ?_ _)); exact BK611.out) hg (Kd.R_ne HL620_0.out BK611.out (by decide))); have n2_ := Aside0.mk ((by rw [hw]; exact below_set (HB.out) GB14.out : Below w.heap.size w w23)); have n3_ := Aside0.mk (hm_); have n4_ := Aside0.mk ((Kd.R_reads' hm_).2.1); clear HO_5; clear BK611; clear HB; clear HL632; clear HL620_0; have HO_5 := n0_; have BK611 := n1_; have HB := n2_; have HL633 := n3_; have HC622 := n4_; clear n0_ n1_ n2_ n3_ n4_; clear hg hw hp_ hz_ hm_ hok22; have p624 : 0 ≤ (x6_1 : Int) := of_decide_eq_true (by first | (with_reducible assumption) | assumption); have q624 : x6_1 < (y623.length : Int) := (by have h_ : (x6_1 : Int) < ((x5_1.length : Int) : Int) := of_decide_eq_true (by first | (with_reducible assumption) | assumption); first | (have e_ := (Kd.S_reads' HO_5.out).1; omega) | simpa only [Ny619.out, Ny623.out, List.length_set] using h_); have ql624 : ((x6_1 : Int) < ((x5_1.length : Int) : Int)) = True := eq_true (of_decide_eq_true (by first | (with_reducible assumption) | assumption)); obtain ⟨ad624, A624_0, c624_0, e624, hx624_0, hl624_0, hi624_0⟩ := at_L5 (Kd.S_reads' HO_5.out).2.2 x6_1 p624 q624; obtain rfl : ad616 = ad624 := (by injection e624); obtain ⟨ce624, hce624, hMe624, hcc624⟩ := Kd.S_get HO_5.out [] x6_1 p624 (by first | exact q624 | exact of_decide_eq_true (by first | (with_reducible assumption) | assumption) | (have e_ := (Kd.S_reads' HO_5.out).1; omega)); obtain ⟨ve624_0, rfl, ge624_0⟩ := hMe624; have hv624_0 := hcc624 0 _ rfl; rw [Nat.add_zero, show ((Kd.slice 4 Kd.bool)).sz = 1 from rfl, Nat.mul_one] at hv624_0; replace hv624_0 := Option.some.inj (hv624_0.symm.trans hx624_0); rw [hv624_0] at ge624_0; have HL624_0 := Aside0.mk (show Kd.R Kd.bool 4 _ _ _ _ (rd_L5 y623 x6_1) from ge624_0); clear hv624_0 ge624_0; have HX624_0 := Aside0.mk hx624_0; clear hcc624 hce624; have HR624_0 := Aside0.mk hi624_0; have HC624_0 := Aside0.mk hl624_0; clear hi624_0 hl624_0; replace p624 := eq_true p624; replace q624 := eq_true q624; have p18 : 0 ≤ ((ji15) : Int) := of_decide_eq_true (by first | (with_reducible assumption) | assumption); have q18 : ((ji15) : Int) < (((rd_L5 y623 x6_1).length : Int) : Int) := of_decide_eq_true (by first | (with_reducible assumption) | assumption); obtain ⟨go18, co18, eo18, gb18, gl18, cl18, HG18⟩ := Kd.R_form HL624_0.out (by omega); (first | cases eo18 | (injection eo18 with ea_ en_ ec_; (first | subst ea_ | (injection ea_ with ea_; subst ea_)); subst ec_; clear en_)); have GB18 := Aside0.mk gb18; have GG18 := Aside0.mk HG18; clear gb18 gl18 HG18; obtain ⟨hx18_0, hf18_0⟩ := Kd.R_celln false HL624_0.out ((ji15) : Int) p18 q18; replace p18 := eq_true p18; replace q18 := eq_true q18; have hq24 : (x6_1 : Int) < (y623.length : Int) := (by have h_ : (x6_1 : Int) < ((x5_1.length : Int) : Int) := of_decide_eq_true (by first | (with_reducible assumption) | assumption); first | exact h_ | (have e_ := (Kd.S_reads' HO_5.out).1; omega) | simpa only [Ny619.out, Ny623.out, List.length_set] using h_); obtain ⟨oki24, ce24, hcl24, hM24, hcc24, hok24, hbk24⟩ := Kd.S_borrow HO_5.out [] (x6_1 : Int) (of_decide_eq_true (by first | (with_reducible assumption) | assumption)) (by first | exact hq24 | exact of_decide_eq_true (by first | (with_reducible assumption) | assumption) | (have e_ := (Kd.S_reads' HO_5.out).1; omega)); obtain ⟨ve24_0, rfl, ge24_0⟩ := hM24; have hv24 := hcc24 0 _ rfl; rw [Nat.add_zero, show ((Kd.slice 4 Kd.bool)).sz = 1 from rfl, Nat.mul_one] at hv24; replace hv24 := Option.some.inj (hv24.symm.trans HX624_0.out); subst hv24; clear hcc24 hcl24; replace ge24_0 := (show Kd.R Kd.bool 4 _ _ _ _ (rd_L5 y623 x6_1) from ge24_0); have HP24 := Kd.R_putg ge24_0 ((ji15) : Int) true) | ((with_reducible refine gate_store (t := 4) (p := 44) rfl ?_); refine store_event (t := 4) (p := 44) (v := ?vo_w25) (w1 := (w23.setCell ⟨go18, ((ji15) : Int).toNat, none⟩ (.bool true))) ?hg ?ho ?hn ?hr ?_; (case ho => rfl); (case hg => rfl); (case hn => rfl); (case hr => first | (go_simp; done) | (go_simp; rfl)); intro w25 hw; have hg : w23.grownBy w25 (some go18) := (by rw [hw]; exact HP24.2); have hz_ : Kd.R Kd.bool 4 w25 w.heap.size oki24 (.slice (some ⟨go18, 0, none⟩) (rd_L5 y623 x6_1).length c624_0) y625 := (by rw [hw, Ny625.out]; exact HP24.1); have hp_ : Kd.S (Kd.slice 4 Kd.bool) 95 w25 w.heap.size (fun _ => True) (.slice (some ad616) x5_1.length co19) y627 := (by rw [Ny627.out]; exact hbk24 hg (fun k_ e_ => by injection e_ with e_; subst e_; exact ge24_0.1 _ rfl) (Kd.M_row hz_)); have hm_ := Kd.R_mono hz_ hok24; clear HP24 hbk24; have n0_ := Aside0.mk (hp_); have n1_ := Aside0.mk (blk_grown (g := gb611) (o := .cells #[.int .i64 0, .slice none 0 0] 52 (0, 0)) (by (with_reducible repeat (first | refine blk_drewN ?_ _ | refine blk_drew ?_ | refine blk_alloc ?_ _)); exact BK611.out) hg (Kd.R_ne HL624_0.out BK611.out (by decide))); have n2_ := Aside0.mk ((by rw [hw]; exact below_set (HB.out) GB18.out : Below w.heap.size w w25)); have n3_ := Aside0.mk (hm_); have n4_ := Aside0.mk ((Kd.R_reads' hm_).2.1); clear HO_5; clear BK611; clear HB; clear HL633; clear HL624_0; have HO_5 := n0_; have BK611 := n1_; have HB := n2_; have HL634 := n3_; have HC626 := n4_; clear n0_ n1_ n2_ n3_ n4_; clear hg hw hp_ hz_ hm_ hok24))
                        go_roundg k1
                        case measure => have := HK1.out; omega
                        case rel => exact ⟨(y627), (wrap64 (x6_1 + 1)), (by first | rfl | (simp; done) | (simp [*]; done)), H', ⟨by have := HK1.out; omega⟩, ⟨by (with_reducible repeat (first | apply Kd.S_alloc | apply Kd.S_drewN | apply Kd.S_drew)); exact HO_5.out⟩, ⟨by (with_reducible repeat (first | refine blk_drewN ?_ _ | refine blk_drew ?_ | refine blk_alloc ?_ _)); exact BK611.out⟩, ⟨by repeat (first | (with_reducible first | exact HB.out | apply below_alloc | apply pw_below_drewN | apply below_drew1 | refine below_set ?_ GE611.out) | exact HB.out)⟩⟩
                      · rw [if_neg c17] at H
                        exact absurd H (by simp)
                    · rw [if_neg c16] at H
                      exact absurd H (by simp)
                  · rw [if_neg c13] at H
                    exact absurd H (by simp)
                · rw [if_neg c12] at H
                  exact absurd H (by simp)
              · rw [if_neg c10] at H
                exact absurd H (by simp)
            · rw [if_neg c9] at H
              exact absurd H (by simp)
          · rw [if_neg c8] at H
            exact absurd H (by simp)
        · rw [if_neg c7] at H
          have c7b0 : decide (x6_1 < (wrap64 ((wrap64 (2 * a0)) + 1))) = false := decide_eq_false c7
          clear c7
          replace H := Option.bind_eq_some_iff.mp H
          obtain ⟨⟨t628, t629⟩, A260, H⟩ := H
          replace H : (some (t628, t629, true)) = some (r1, r2, r3) := H
          have A26 := Aside0.mk A260
          clear A260
          simp only [Option.some.injEq, Prod.mk.injEq] at H
          obtain ⟨rfl, rfl, rfl⟩ := H
          obtain ⟨Ao27, co27, eo27⟩ := Kd.S_slice HO_5.out
          subst eo27
          go_wp2_with (first | ((with_reducible refine gate_callee (f := 86) rfl ?_); refine goesL_ (some 46) rfl rfl Try.func86 (by kernel_rfl) rfl #[.slice Ao27 x5_1.length co27] rfl (by (try simp only [List.map_toArray, List.map_cons, List.map_nil]); first | done | rfl | (simp only [List.length_drop, List.length_take]; rfl)) ?_; (with_reducible refine (spec_paOf.calls k1 _ _ x5_1 t628 t629 _ ?side1 ?side2 A26.out).mono ?_); (case side1 => repeat (first | exact (Kd.S_reads' HO_5.out).2.2 | (with_reducible refine Kd.C_alloc ?_ _) | (with_reducible refine Kd.C_drewN ?_ _) | (with_reducible refine Kd.C_drew ?_))); (case side2 => exact (Kd.S_reads' HO_5.out).2.1); rintro e w28 ⟨v630, rfl, ho0, hb⟩; refine ⟨_, rfl, ?_⟩; have n0_ := Aside0.mk (Kd.S_below (by (with_reducible repeat (first | apply Kd.S_alloc | apply Kd.S_drewN | apply Kd.S_drew)); exact HO_5.out) hb); have n1_ := Aside0.mk (Kd.R_lower ho0 (below_size (by repeat (first | (with_reducible first | exact HB.out | apply below_alloc | apply pw_below_drewN | apply below_drew1 | refine below_set ?_ GE611.out) | exact HB.out)))); have n2_ := Aside0.mk (blk_below (g := gb611) (o := .cells #[.int .i64 0, .slice none 0 0] 52 (0, 0)) (by (with_reducible repeat (first | refine blk_drewN ?_ _ | refine blk_drew ?_ | refine blk_alloc ?_ _)); exact BK611.out) hb); have n3_ := Aside0.mk (below_step (by repeat (first | (with_reducible first | exact HB.out | apply below_alloc | apply pw_below_drewN | apply below_drew1 | refine below_set ?_ GE611.out) | exact HB.out)) hb); clear HO_5; clear BK611; clear HB; have HO_5 := n0_; have HO631 := n1_; have BK611 := n2_; have HB := n3_; clear n0_ n1_ n2_ n3_; (try clear hb); (try clear hb2); (try clear hk); (try clear hi); (try clear ho0); have hcz29_0 : w28.cell? ⟨gb611, 0, none⟩ = some (.int .i64 0) := (blk_cell BK611.out 0).trans rfl; have hcz29_1 : w28.cell? ⟨gb611, 1, none⟩ = some (.slice none 0 0) := (blk_cell BK611.out 1).trans rfl; have hfz29_0 := blk_frozen BK611.out 0; have hfz29_1 := blk_frozen BK611.out 1; obtain ⟨Ao30, co30, eo30⟩ := Kd.R_slice HO631.out; subst eo30))
          refine bodyPost_ret (results_ct rfl _ _ gb611 52 #[.int .i64 t628, .slice Ao30 t629.length co30] (0, 0) _ rfl (by (with_reducible repeat (first | refine blk_drewN ?_ _ | refine blk_drew ?_ | refine blk_alloc ?_ _)); refine blk_put (cs := #[.int .i64 t628, .slice none 0 0]) ?_ 1 _ rfl; (with_reducible repeat (first | refine blk_drewN ?_ _ | refine blk_drew ?_ | refine blk_alloc ?_ _)); refine blk_put (cs := #[.int .i64 0, .slice none 0 0]) ?_ 0 _ rfl; (with_reducible repeat (first | refine blk_drewN ?_ _ | refine blk_drew ?_ | refine blk_alloc ?_ _)); exact BK611.out) Try.underlying52 rfl (by kernel_rfl)) rfl ?_
          exact ⟨_, by first | rfl | (simp [errW_none, errW_some] <;> rfl) | (simp [*, errW_none, errW_some] <;> rfl), by (with_reducible repeat (first | apply Kd.R_alloc | apply Kd.R_drewN | apply Kd.R_drew)); exact Kd.R_mono (Kd.R_far (p := ⟨gb611, 1, none⟩) (Kd.R_far (p := ⟨gb611, 0, none⟩) (Kd.R_types HO631.out BK611.out (by decide)) (fun _ hk => hk.2) (.int .i64 t628)) (fun _ hk => hk.2) (.slice Ao30 t629.length co30)) (fun _ hk => trivial), by repeat (first | (with_reducible first | exact HB.out | apply below_alloc | apply pw_below_drewN | apply below_drew1 | refine below_set ?_ GE611.out) | exact HB.out)⟩
  · replace c3 := Bool.eq_false_iff.mpr c3
    subst c3
    have H1 : (some (0, ([] : List (S70)), false)) = some (r1, r2, r3) := by rw [if_neg (show ¬ (false = true) by decide)] at H; exact H
    clear H
    have H := H1
    clear H1
    simp only [Option.some.injEq, Prod.mk.injEq] at H
    obtain ⟨rfl, rfl, rfl⟩ := H
    go_enter Try.func50, Try.ntmps50
    go_wp2_with (first | ((with_reducible refine gate_dst (N := 2) rfl ?_); refine box_event ?hg (N := 2) ?hd (cs := #[.int .i64 0, .slice none 0 0]) (t := 52) ?hr ?_; (case hd => rfl); (case hg => rfl); (case hr => first | (go_simp; done) | (go_simp; rfl)); intro gb611 hg w31 hbox hb; have n0_ := Aside0.mk (below_step (by repeat (first | (with_reducible first | exact HB.out | apply below_alloc | apply pw_below_drewN | apply below_drew1) | exact HB.out)) hb); have n1_ := Aside0.mk (hbox); have n2_ := Aside0.mk ((by rw [hg]; exact (below_size (by repeat (first | (with_reducible first | exact HB.out | apply below_alloc | apply pw_below_drewN | apply below_drew1) | exact HB.out))) : w.heap.size ≤ gb611)); have n3_ := Aside0.mk ((by rw [hg]; exact (below_size (by repeat (first | (with_reducible first | exact HB.out | apply below_alloc | apply pw_below_drewN | apply below_drew1) | exact HB.out))) : w.heap.size ≤ gb611)); clear HB; have HB := n0_; have BK611 := n1_; have GW611 := n2_; have GE611 := n3_; clear n0_ n1_ n2_ n3_; clear hb hbox hg) | ((with_reducible refine gate_callee (f := 54) rfl ?_); refine goesL_ (some 9) rfl rfl Try.func54 (by kernel_rfl) rfl #[.int .i64 a0, .int .i64 0, .int .i64 5] rfl (by (try simp only [List.map_toArray, List.map_cons, List.map_nil]); first | done | rfl | (simp only [List.length_drop, List.length_take]; rfl)) ?_; (with_reducible refine (spec_l1In.calls a0 0 5 false _ A2.out).mono ?_); rintro e w' ⟨rfl, ⟨nd, rfl⟩⟩; refine ⟨_, rfl, ?_⟩; (try (rw [drewN_self w31]; generalize hq_ : World.drewN w31 _ = w31; have n0_ : Aside0 (w31.heap[gb611]? = some (.cells #[.int .i64 0, .slice none 0 0] 52 (0, 0))) := ⟨by rw [← hq_]; exact (by (with_reducible repeat (first | refine blk_drewN ?_ _ | refine blk_drew ?_ | refine blk_alloc ?_ _)); exact BK611.out)⟩; have n1_ : Aside0 (Below w.heap.size w w31) := ⟨by rw [← hq_]; exact (by repeat (first | (with_reducible first | exact HB.out | apply below_alloc | apply pw_below_drewN | apply below_drew1 | refine below_set ?_ GE611.out) | exact HB.out))⟩; clear BK611 HB hq_; have BK611 := n0_; have HB := n1_; clear n0_ n1_)); have hcz32_0 : w31.cell? ⟨gb611, 0, none⟩ = some (.int .i64 0) := (blk_cell BK611.out 0).trans rfl; have hcz32_1 : w31.cell? ⟨gb611, 1, none⟩ = some (.slice none 0 0) := (blk_cell BK611.out 1).trans rfl; have hfz32_0 := blk_frozen BK611.out 0; have hfz32_1 := blk_frozen BK611.out 1))
    refine bodyPost_ret (results_ct rfl _ _ gb611 52 #[.int .i64 0, .slice none 0 0] (0, 0) _ rfl (by (with_reducible repeat (first | refine blk_drewN ?_ _ | refine blk_drew ?_ | refine blk_alloc ?_ _)); refine blk_put (cs := #[.int .i64 0, .slice none 0 0]) ?_ 1 _ rfl; (with_reducible repeat (first | refine blk_drewN ?_ _ | refine blk_drew ?_ | refine blk_alloc ?_ _)); refine blk_put (cs := #[.int .i64 0, .slice none 0 0]) ?_ 0 _ rfl; (with_reducible repeat (first | refine blk_drewN ?_ _ | refine blk_drew ?_ | refine blk_alloc ?_ _)); exact BK611.out) Try.underlying52 rfl (by kernel_rfl)) rfl ?_
    exact ⟨_, by first | rfl | (simp [errW_none, errW_some] <;> rfl) | (simp [*, errW_none, errW_some] <;> rfl), by first | exact Kd.R_nil _ _ _ _ _ | exact Kd.N_nil _ _ _ _ _ | exact Kd.V_nil _ _ _ _ _ | exact Kd.Q_nil _ _ _ _ _ | exact Kd.S_nil _ _ _ _ _, by repeat (first | (with_reducible first | exact HB.out | apply below_alloc | apply pw_below_drewN | apply below_drew1 | refine below_set ?_ GE611.out) | exact HB.out)⟩

end Go.Proofs.Ytghefgfacafboaa.Q
