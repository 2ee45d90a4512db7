-- Written by wip/tools/gprint.py (the kit's print, with contracts of this session): Lean checks it.
import Derived.Test.YtipblaifgpnebaaQ0
import Derived.Test.YtipblaifgpnebaaQ3
import Derived.Test.YtipblaifgpnebaaQ32
import Derived.Test.YtipblaifgpnebaaQ58
import Derived.Test.YtipblaifgpnebaaQ59
namespace Go.Proofs.Ytipblaifgpnebaa.Q
open Go.RowKit Go.Proofs.YtipblaifgpnebaaW.PrintWords Go.Proofs.YtipblaifgpnebaaW.PrintLast Go.Proofs.YtipblaifgpnebaaW.PrintMore
attribute [local go_sem] max2_int min2_int max_two min_two max_three min_three max_four min_four   -- for this text's walks alone
set_option linter.unusedVariables false
set_option linter.unusedSimpArgs false

/-! ### spec_CircleParty: function 27 -/
mutual
def spec_CircleParty.j0 : Nat → Int → List Int → Bool → Option (Int × (List (S63)) × Bool)
  | 0, _, _, _ => none
  | k + 1, x0, x1, x26 => if x26 = true then (some (0, ([] : List (S63)), false)) else (spec_CircleParty.l0 k x0 x1 1)
def spec_CircleParty.l0 : Nat → Int → List Int → Int → Option (Int × (List (S63)) × Bool)
  | 0, _, _, _ => none
  | k + 1, x0, x1, x6 => if x6 < (x1.length : Int) then (if 0 ≤ (wrap64 (x6 - 1)) then (if (wrap64 (x6 - 1)) < (x1.length : Int) then (if 0 ≤ x6 then (if (rd x1 (wrap64 (x6 - 1))) ≥ (rd x1 x6) then (some (0, ([] : List (S63)), false)) else (spec_CircleParty.l0 k x0 x1 (wrap64 (x6 + 1)))) else (none)) else (none)) else (none)) else ((spec_paTable.f k x0 ([] : List (S63))).bind fun t410 => (spec_CircleParty.l1 k x0 x1 t410 (t410.length : Int) 0))
def spec_CircleParty.l1 : Nat → Int → List Int → List (List Bool) → Int → Int → Option (Int × (List (S63)) × Bool)
  | 0, _, _, _, _, _ => none
  | k + 1, x0, x1, x7, x49, x50 => if x50 < x49 then (spec_CircleParty.l2 k x0 x1 x7 x50 x49 x50 x1 (x1.length : Int) 0) else ((spec_paOf.f k x7).bind fun bt413 => (some (bt413.1, bt413.2, true)))
def spec_CircleParty.l2 : Nat → Int → List Int → List (List Bool) → Int → Int → Int → List Int → Int → Int → Option (Int × (List (S63)) × Bool)
  | 0, _, _, _, _, _, _, _, _, _ => none
  | k + 1, x0, x1, x7, x8, x49, x50, x53, x54, x55 => if x55 < x54 then (if 0 ≤ x55 then (if x55 < (x53.length : Int) then (if x0 = 0 then (none) else (if 0 ≤ x8 then (if x8 < (x7.length : Int) then (if 0 ≤ (Int.tmod (wrap64 (x8 + (rd x53 x55))) x0) then (if (Int.tmod (wrap64 (x8 + (rd x53 x55))) x0) < ((rd_L5 x7 x8).length : Int) then ((some (x7.set (x8 : Int).toNat ((rd_L5 x7 x8).set ((Int.tmod (wrap64 (x8 + (rd x53 x55))) x0) : Int).toNat true) : List (List Bool))).bind fun y421 => (if (Int.tmod (wrap64 (x8 + (rd x53 x55))) x0) < (x7.length : Int) then (if x8 < ((rd_L5 y421 (Int.tmod (wrap64 (x8 + (rd x53 x55))) x0)).length : Int) then (spec_CircleParty.l2 k x0 x1 (y421.set ((Int.tmod (wrap64 (x8 + (rd x53 x55))) x0) : Int).toNat ((rd_L5 y421 (Int.tmod (wrap64 (x8 + (rd x53 x55))) x0)).set (x8 : Int).toNat true)) x8 x49 x50 x53 x54 (wrap64 (x55 + 1))) else (none)) else (none))) else (none)) else (none)) else (none)) else (none))) else (none)) else (none)) else (spec_CircleParty.l1 k x0 x1 x7 x49 (wrap64 (x50 + 1)))
end
def spec_CircleParty.f (k : Nat) (a0 : Int) (l1 : List Int) : Option (Int × (List (S63)) × Bool) := (spec_l1In.f a0 1 12).bind fun t406 => (if t406 = true then (if (l1.length : Int) > 6 then (spec_CircleParty.j0 k a0 l1 true) else ((spec_l1All.f k l1 1 (wrap64 (Int.tdiv a0 2))).bind fun t407 => (spec_CircleParty.j0 k a0 l1 (!t407)))) else (spec_CircleParty.j0 k a0 l1 true))
theorem spec_CircleParty.mono_l : ∀ k, (∀ y0 y1 y2, LeO (spec_CircleParty.j0 k y0 y1 y2) (spec_CircleParty.j0 (k + 1) y0 y1 y2)) ∧ (∀ y0 y1 y2, LeO (spec_CircleParty.l0 k y0 y1 y2) (spec_CircleParty.l0 (k + 1) y0 y1 y2)) ∧ (∀ y0 y1 y2 y3 y4, LeO (spec_CircleParty.l1 k y0 y1 y2 y3 y4) (spec_CircleParty.l1 (k + 1) y0 y1 y2 y3 y4)) ∧ (∀ y0 y1 y2 y3 y4 y5 y6 y7 y8, LeO (spec_CircleParty.l2 k y0 y1 y2 y3 y4 y5 y6 y7 y8) (spec_CircleParty.l2 (k + 1) y0 y1 y2 y3 y4 y5 y6 y7 y8))
  | 0 => ⟨fun _ _ _ r h => by simp [spec_CircleParty.j0] at h, fun _ _ _ r h => by simp [spec_CircleParty.l0] at h, fun _ _ _ _ _ r h => by simp [spec_CircleParty.l1] at h, fun _ _ _ _ _ _ _ _ _ r h => by simp [spec_CircleParty.l2] at h⟩
  | k + 1 => by
    obtain ⟨ih0, ih1, ih2, ih3⟩ := spec_CircleParty.mono_l k
    refine ⟨?_, ?_, ?_, ?_⟩
    · intro y0 y1 y2
      unfold spec_CircleParty.j0
      repeat' first
      | (with_reducible exact ih0 _ _ _)
      | (with_reducible exact ih1 _ _ _)
      | (with_reducible exact ih2 _ _ _ _ _)
      | (with_reducible exact ih3 _ _ _ _ _ _ _ _ _)
      | (with_reducible exact spec_l1All.mono _ _ _ _)
      | (with_reducible exact spec_paOf.mono _ _)
      | (with_reducible exact spec_paTable.mono _ _ _)
      | (with_reducible exact LeO.refl _)
      | (with_reducible exact LeO.none _)
      | (with_reducible refine LeO.ite ?_ ?_)
      | (with_reducible refine LeO.bind ?_ (fun _ => ?_))
      | exact ih0 _ _ _
      | exact ih1 _ _ _
      | exact ih2 _ _ _ _ _
      | exact ih3 _ _ _ _ _ _ _ _ _
      | exact spec_l1All.mono _ _ _ _
      | exact spec_paOf.mono _ _
      | exact spec_paTable.mono _ _ _
      | exact LeO.none _
      | refine LeO.ite ?_ ?_
      | refine LeO.bind ?_ (fun _ => ?_)
    · intro y0 y1 y2
      unfold spec_CircleParty.l0
      repeat' first
      | (with_reducible exact ih0 _ _ _)
      | (with_reducible exact ih1 _ _ _)
      | (with_reducible exact ih2 _ _ _ _ _)
      | (with_reducible exact ih3 _ _ _ _ _ _ _ _ _)
      | (with_reducible exact spec_l1All.mono _ _ _ _)
      | (with_reducible exact spec_paOf.mono _ _)
      | (with_reducible exact spec_paTable.mono _ _ _)
      | (with_reducible exact LeO.refl _)
      | (with_reducible exact LeO.none _)
      | (with_reducible refine LeO.ite ?_ ?_)
      | (with_reducible refine LeO.bind ?_ (fun _ => ?_))
      | exact ih0 _ _ _
      | exact ih1 _ _ _
      | exact ih2 _ _ _ _ _
      | exact ih3 _ _ _ _ _ _ _ _ _
      | exact spec_l1All.mono _ _ _ _
      | exact spec_paOf.mono _ _
      | exact spec_paTable.mono _ _ _
      | exact LeO.none _
      | refine LeO.ite ?_ ?_
      | refine LeO.bind ?_ (fun _ => ?_)
    · intro y0 y1 y2 y3 y4
      unfold spec_CircleParty.l1
      repeat' first
      | (with_reducible exact ih0 _ _ _)
      | (with_reducible exact ih1 _ _ _)
      | (with_reducible exact ih2 _ _ _ _ _)
      | (with_reducible exact ih3 _ _ _ _ _ _ _ _ _)
      | (with_reducible exact spec_l1All.mono _ _ _ _)
      | (with_reducible exact spec_paOf.mono _ _)
      | (with_reducible exact spec_paTable.mono _ _ _)
      | (with_reducible exact LeO.refl _)
      | (with_reducible exact LeO.none _)
      | (with_reducible refine LeO.ite ?_ ?_)
      | (with_reducible refine LeO.bind ?_ (fun _ => ?_))
      | exact ih0 _ _ _
      | exact ih1 _ _ _
      | exact ih2 _ _ _ _ _
      | exact ih3 _ _ _ _ _ _ _ _ _
      | exact spec_l1All.mono _ _ _ _
      | exact spec_paOf.mono _ _
      | exact spec_paTable.mono _ _ _
      | exact LeO.none _
      | refine LeO.ite ?_ ?_
      | refine LeO.bind ?_ (fun _ => ?_)
    · intro y0 y1 y2 y3 y4 y5 y6 y7 y8
      unfold spec_CircleParty.l2
      repeat' first
      | (with_reducible exact ih0 _ _ _)
      | (with_reducible exact ih1 _ _ _)
      | (with_reducible exact ih2 _ _ _ _ _)
      | (with_reducible exact ih3 _ _ _ _ _ _ _ _ _)
      | (with_reducible exact spec_l1All.mono _ _ _ _)
      | (with_reducible exact spec_paOf.mono _ _)
      | (with_reducible exact spec_paTable.mono _ _ _)
      | (with_reducible exact LeO.refl _)
      | (with_reducible exact LeO.none _)
      | (with_reducible refine LeO.ite ?_ ?_)
      | (with_reducible refine LeO.bind ?_ (fun _ => ?_))
      | exact ih0 _ _ _
      | exact ih1 _ _ _
      | exact ih2 _ _ _ _ _
      | exact ih3 _ _ _ _ _ _ _ _ _
      | exact spec_l1All.mono _ _ _ _
      | exact spec_paOf.mono _ _
      | exact spec_paTable.mono _ _ _
      | exact LeO.none _
      | refine LeO.ite ?_ ?_
      | refine LeO.bind ?_ (fun _ => ?_)
theorem spec_CircleParty.mono : ∀ a0 a1 k, LeO (spec_CircleParty.f k a0 a1) (spec_CircleParty.f (k + 1) a0 a1) := by
  intro a0 a1 k
  obtain ⟨ih0, ih1, ih2, ih3⟩ := spec_CircleParty.mono_l k
  unfold spec_CircleParty.f
  repeat' first
      | (with_reducible exact ih0 _ _ _)
      | (with_reducible exact ih1 _ _ _)
      | (with_reducible exact ih2 _ _ _ _ _)
      | (with_reducible exact ih3 _ _ _ _ _ _ _ _ _)
      | (with_reducible exact spec_l1All.mono _ _ _ _)
      | (with_reducible exact spec_paOf.mono _ _)
      | (with_reducible exact spec_paTable.mono _ _ _)
      | (with_reducible exact LeO.refl _)
      | (with_reducible exact LeO.none _)
      | (with_reducible refine LeO.ite ?_ ?_)
      | (with_reducible refine LeO.bind ?_ (fun _ => ?_))
      | exact ih0 _ _ _
      | exact ih1 _ _ _
      | exact ih2 _ _ _ _ _
      | exact ih3 _ _ _ _ _ _ _ _ _
      | exact spec_l1All.mono _ _ _ _
      | exact spec_paOf.mono _ _
      | exact spec_paTable.mono _ _ _
      | exact LeO.none _
      | refine LeO.ite ?_ ?_
      | refine LeO.bind ?_ (fun _ => ?_)
set_option maxHeartbeats 8000000 in
set_option maxRecDepth 100000 in
theorem spec_CircleParty.calls (k : Nat) (a0 : Int) (A1 : Option Addr) (c1 : Nat) (l1 : List Int) (r1 : Int) (r2 : List (S63)) (r3 : Bool) (w : World) (hr1 : Kd.C (Kd.int .i64) w A1 l1.length l1) (hc1 : l1.length ≤ c1) (h : spec_CircleParty.f k a0 l1 = some (r1, r2, r3)) :
    Calls Try.prog 27 #[.int .i64 a0, .slice A1 l1.length c1] w fun e w' => ∃ v1_ : Value, e = .returned (.tuple #[.agg #[.int .i64 r1, v1_], .bool r3]) ∧ Kd.R k63 63 w' w.heap.size (fun _ => True) v1_ r2 ∧ Below w.heap.size w w' := by
  have hu30 := Try.underlying30
  have HR1 := Aside0.mk hr1
  have HC1 := Aside0.mk hc1
  clear hr1 hc1
  have HB := Aside0.mk (Below.refl w.heap.size w)
  have H : ((spec_l1In.f a0 1 12).bind fun t406 => (if t406 = true then (if (l1.length : Int) > 6 then (spec_CircleParty.j0 k a0 l1 true) else ((spec_l1All.f k l1 1 (wrap64 (Int.tdiv a0 2))).bind fun t407 => (spec_CircleParty.j0 k a0 l1 (!t407)))) else (spec_CircleParty.j0 k a0 l1 true))) = some (r1, r2, r3) := h
  clear h
  have HC3 := Aside0.mk H
  clear H
  go_enter Try.func27, Try.ntmps27
  go_upto_region 1 with (first | ((with_reducible refine gate_dst (N := 4) rfl ?_); (try (refine gate_guard (by rfl) ?_; dsimp only)); refine box_event ?hg (N := 4) ?hd (cs := #[.int .i64 0, .slice none 0 0]) (t := 30) ?hr ?_; (case hd => rfl); (case hg => rfl); (case hr => first | (go_simp; done) | (go_simp; rfl)); intro gb405 hg w4 hbox hb; have n0_ := Aside0.mk (below_step (by repeat (first | (with_reducible first | exact HB.out | apply below_alloc | apply pw_below_drewN | apply below_drew1) | exact HB.out)) hb); have n1_ := Aside0.mk (hbox); have n2_ := Aside0.mk ((by rw [hg]; exact (below_size (by repeat (first | (with_reducible first | exact HB.out | apply below_alloc | apply pw_below_drewN | apply below_drew1) | exact HB.out))) : w.heap.size ≤ gb405)); have n3_ := Aside0.mk ((by rw [hg]; exact (below_size (by repeat (first | (with_reducible first | exact HB.out | apply below_alloc | apply pw_below_drewN | apply below_drew1) | exact HB.out))) : w.heap.size ≤ gb405)); clear HB; have HB := n0_; have BK405 := n1_; have GW405 := n2_; have GE405 := n3_; clear n0_ n1_ n2_ n3_; clear hb hbox hg))
  repeat (go_quiet (first | ((with_reducible refine gate_dst (N := 4) rfl ?_); (try (refine gate_guard (by rfl) ?_; dsimp only)); refine box_event ?hg (N := 4) ?hd (cs := #[.int .i64 0, .slice none 0 0]) (t := 30) ?hr ?_; (case hd => rfl); (case hg => rfl); (case hr => first | (go_simp; done) | (go_simp; rfl)); intro gb405 hg w4 hbox hb; have n0_ := Aside0.mk (below_step (by repeat (first | (with_reducible first | exact HB.out | apply below_alloc | apply pw_below_drewN | apply below_drew1) | exact HB.out)) hb); have n1_ := Aside0.mk (hbox); have n2_ := Aside0.mk ((by rw [hg]; exact (below_size (by repeat (first | (with_reducible first | exact HB.out | apply below_alloc | apply pw_below_drewN | apply below_drew1) | exact HB.out))) : w.heap.size ≤ gb405)); have n3_ := Aside0.mk ((by rw [hg]; exact (below_size (by repeat (first | (with_reducible first | exact HB.out | apply below_alloc | apply pw_below_drewN | apply below_drew1) | exact HB.out))) : w.heap.size ≤ gb405)); clear HB; have HB := n0_; have BK405 := n1_; have GW405 := n2_; have GE405 := n3_; clear n0_ n1_ n2_ n3_; clear hb hbox hg)); go_upto_region 1 with (first | ((with_reducible refine gate_dst (N := 4) rfl ?_); (try (refine gate_guard (by rfl) ?_; dsimp only)); refine box_event ?hg (N := 4) ?hd (cs := #[.int .i64 0, .slice none 0 0]) (t := 30) ?hr ?_; (case hd => rfl); (case hg => rfl); (case hr => first | (go_simp; done) | (go_simp; rfl)); intro gb405 hg w4 hbox hb; have n0_ := Aside0.mk (below_step (by repeat (first | (with_reducible first | exact HB.out | apply below_alloc | apply pw_below_drewN | apply below_drew1) | exact HB.out)) hb); have n1_ := Aside0.mk (hbox); have n2_ := Aside0.mk ((by rw [hg]; exact (below_size (by repeat (first | (with_reducible first | exact HB.out | apply below_alloc | apply pw_below_drewN | apply below_drew1) | exact HB.out))) : w.heap.size ≤ gb405)); have n3_ := Aside0.mk ((by rw [hg]; exact (below_size (by repeat (first | (with_reducible first | exact HB.out | apply below_alloc | apply pw_below_drewN | apply below_drew1) | exact HB.out))) : w.heap.size ≤ gb405)); clear HB; have HB := n0_; have BK405 := n1_; have GW405 := n2_; have GE405 := n3_; clear n0_ n1_ n2_ n3_; clear hb hbox hg)))
  (try simp only [Act.put, List.setIfInBounds_toArray, List.set_cons_zero, List.set_cons_succ])
  go_cut [26] (fun v26 wc => ∃ (kq : Nat) (x26_2 : Bool), v26 = .bool x26_2 ∧ Aside0 (spec_CircleParty.j0 kq a0 l1 x26_2 = some (r1, r2, r3)) ∧ Aside0 (kq ≤ k) ∧ Aside0 (wc.heap[gb405]? = some (.cells #[.int .i64 0, (.slice none 0 0)] 30 (0, 0))) ∧ Aside0 (Below w.heap.size w wc))
  case first =>
    have H := HC3.out
    clear HC3
    replace H := Option.bind_eq_some_iff.mp H
    obtain ⟨t406, A50, H⟩ := H
    replace H : (if t406 = true then (if (l1.length : Int) > 6 then (spec_CircleParty.j0 k a0 l1 true) else ((spec_l1All.f k l1 1 (wrap64 (Int.tdiv a0 2))).bind fun t407 => (spec_CircleParty.j0 k a0 l1 (!t407)))) else (spec_CircleParty.j0 k a0 l1 true)) = some (r1, r2, r3) := H
    have A5 := Aside0.mk A50
    clear A50
    by_cases c6 : t406 = true
    · subst c6
      have H1 : (if (l1.length : Int) > 6 then (spec_CircleParty.j0 k a0 l1 true) else ((spec_l1All.f k l1 1 (wrap64 (Int.tdiv a0 2))).bind fun t407 => (spec_CircleParty.j0 k a0 l1 (!t407)))) = some (r1, r2, r3) := by rw [if_pos rfl] at H; exact H
      clear H
      have H := H1
      clear H1
      by_cases c7 : (l1.length : Int) > 6
      · rw [if_pos c7] at H
        have c7b0 : decide (6 < (l1.length : Int)) = true := decide_eq_true c7
        have c7b1 : decide (6 < l1.length) = true := decide_eq_true (by omega)
        clear c7
        (first | rw [c7b0] | (simp only [i64_w, i32_w]; rw [c7b0]) | skip)
        have H' := Aside0.mk H
        clear H
        go_wp2_with (first | (go_at_call 56; (with_reducible refine (spec_l1In.calls a0 1 12 true _ A5.out).mono ?_); rintro e w' ⟨rfl, ⟨nd, rfl⟩⟩; (try first | exact ⟨rfl, _, World.drewN_drewN _ _ _⟩ | exact ⟨rfl, _, Eq.trans (World.drewN_drewN _ _ _) (congrArg (World.drewN _) (Nat.add_assoc _ _ _))⟩)))
        repeat (go_quiet (first | (go_at_call 56; (with_reducible refine (spec_l1In.calls a0 1 12 true _ A5.out).mono ?_); rintro e w' ⟨rfl, ⟨nd, rfl⟩⟩; (try first | exact ⟨rfl, _, World.drewN_drewN _ _ _⟩ | exact ⟨rfl, _, Eq.trans (World.drewN_drewN _ _ _) (congrArg (World.drewN _) (Nat.add_assoc _ _ _))⟩))); try go_wp2_with (first | (go_at_call 56; (with_reducible refine (spec_l1In.calls a0 1 12 true _ A5.out).mono ?_); rintro e w' ⟨rfl, ⟨nd, rfl⟩⟩; (try first | exact ⟨rfl, _, World.drewN_drewN _ _ _⟩ | exact ⟨rfl, _, Eq.trans (World.drewN_drewN _ _ _) (congrArg (World.drewN _) (Nat.add_assoc _ _ _))⟩))))
        go_meet
        case rel => exact ⟨_, (true), (by first | rfl | (simp; done) | (simp [*]; done)), H', ⟨by first | omega | exact Nat.le_refl _⟩, ⟨by (with_reducible repeat (first | refine blk_drewN ?_ _ | refine blk_drew ?_ | refine blk_alloc ?_ _)); exact BK405.out⟩, ⟨by repeat (first | (with_reducible first | exact HB.out | apply below_alloc | apply pw_below_drewN | apply below_drew1 | refine below_set ?_ GE405.out) | exact HB.out)⟩⟩
      · rw [if_neg c7] at H
        have c7b0 : decide (6 < (l1.length : Int)) = false := decide_eq_false c7
        have c7b1 : decide (6 < l1.length) = false := decide_eq_false (by omega)
        clear c7
        (first | rw [c7b0] | (simp only [i64_w, i32_w]; rw [c7b0]) | skip)
        replace H := Option.bind_eq_some_iff.mp H
        obtain ⟨t407, A80, H⟩ := H
        replace H : (spec_CircleParty.j0 k a0 l1 (!t407)) = some (r1, r2, r3) := H
        have A8 := Aside0.mk A80
        clear A80
        have H' := Aside0.mk H
        clear H
        go_wp2_with (first | (go_at_call 56; (with_reducible refine (spec_l1In.calls a0 1 12 true _ A5.out).mono ?_); rintro e w' ⟨rfl, ⟨nd, rfl⟩⟩; (try first | exact ⟨rfl, _, World.drewN_drewN _ _ _⟩ | exact ⟨rfl, _, Eq.trans (World.drewN_drewN _ _ _) (congrArg (World.drewN _) (Nat.add_assoc _ _ _))⟩)) | (go_at_call 57; (with_reducible refine (spec_l1All.calls k _ _ l1 1 (wrap64 (Int.tdiv a0 2)) t407 _ ?side1 ?side2 A8.out).mono ?_); (case side1 => repeat (first | exact (Kd.C_below HR1.out (by repeat (first | (with_reducible first | exact HB.out | apply below_alloc | apply pw_below_drewN | apply below_drew1 | refine below_set ?_ GE405.out) | exact HB.out))) | (with_reducible refine Kd.C_alloc ?_ _) | (with_reducible refine Kd.C_drewN ?_ _) | (with_reducible refine Kd.C_drew ?_))); (case side2 => exact HC1.out); rintro e w' ⟨rfl, ⟨nd, rfl⟩⟩; (try first | exact ⟨rfl, _, World.drewN_drewN _ _ _⟩ | exact ⟨rfl, _, Eq.trans (World.drewN_drewN _ _ _) (congrArg (World.drewN _) (Nat.add_assoc _ _ _))⟩)))
        repeat (go_quiet (first | (go_at_call 56; (with_reducible refine (spec_l1In.calls a0 1 12 true _ A5.out).mono ?_); rintro e w' ⟨rfl, ⟨nd, rfl⟩⟩; (try first | exact ⟨rfl, _, World.drewN_drewN _ _ _⟩ | exact ⟨rfl, _, Eq.trans (World.drewN_drewN _ _ _) (congrArg (World.drewN _) (Nat.add_assoc _ _ _))⟩)) | (go_at_call 57; (with_reducible refine (spec_l1All.calls k _ _ l1 1 (wrap64 (Int.tdiv a0 2)) t407 _ ?side1 ?side2 A8.out).mono ?_); (case side1 => repeat (first | exact (Kd.C_below HR1.out (by repeat (first | (with_reducible first | exact HB.out | apply below_alloc | apply pw_below_drewN | apply below_drew1 | refine below_set ?_ GE405.out) | exact HB.out))) | (with_reducible refine Kd.C_alloc ?_ _) | (with_reducible refine Kd.C_drewN ?_ _) | (with_reducible refine Kd.C_drew ?_))); (case side2 => exact HC1.out); rintro e w' ⟨rfl, ⟨nd, rfl⟩⟩; (try first | exact ⟨rfl, _, World.drewN_drewN _ _ _⟩ | exact ⟨rfl, _, Eq.trans (World.drewN_drewN _ _ _) (congrArg (World.drewN _) (Nat.add_assoc _ _ _))⟩))); try go_wp2_with (first | (go_at_call 56; (with_reducible refine (spec_l1In.calls a0 1 12 true _ A5.out).mono ?_); rintro e w' ⟨rfl, ⟨nd, rfl⟩⟩; (try first | exact ⟨rfl, _, World.drewN_drewN _ _ _⟩ | exact ⟨rfl, _, Eq.trans (World.drewN_drewN _ _ _) (congrArg (World.drewN _) (Nat.add_assoc _ _ _))⟩)) | (go_at_call 57; (with_reducible refine (spec_l1All.calls k _ _ l1 1 (wrap64 (Int.tdiv a0 2)) t407 _ ?side1 ?side2 A8.out).mono ?_); (case side1 => repeat (first | exact (Kd.C_below HR1.out (by repeat (first | (with_reducible first | exact HB.out | apply below_alloc | apply pw_below_drewN | apply below_drew1 | refine below_set ?_ GE405.out) | exact HB.out))) | (with_reducible refine Kd.C_alloc ?_ _) | (with_reducible refine Kd.C_drewN ?_ _) | (with_reducible refine Kd.C_drew ?_))); (case side2 => exact HC1.out); rintro e w' ⟨rfl, ⟨nd, rfl⟩⟩; (try first | exact ⟨rfl, _, World.drewN_drewN _ _ _⟩ | exact ⟨rfl, _, Eq.trans (World.drewN_drewN _ _ _) (congrArg (World.drewN _) (Nat.add_assoc _ _ _))⟩))))
        go_meet
        case rel => exact ⟨_, (!t407), (by first | rfl | (simp; done) | (simp [*]; done)), H', ⟨by first | omega | exact Nat.le_refl _⟩, ⟨by (with_reducible repeat (first | refine blk_drewN ?_ _ | refine blk_drew ?_ | refine blk_alloc ?_ _)); exact BK405.out⟩, ⟨by repeat (first | (with_reducible first | exact HB.out | apply below_alloc | apply pw_below_drewN | apply below_drew1 | refine below_set ?_ GE405.out) | exact HB.out)⟩⟩
    · replace c6 := Bool.eq_false_iff.mpr c6
      subst c6
      have H1 : (spec_CircleParty.j0 k a0 l1 true) = some (r1, r2, r3) := by rw [if_neg (show ¬ (false = true) by decide)] at H; exact H
      clear H
      have H := H1
      clear H1
      have H' := Aside0.mk H
      clear H
      go_wp2_with (first | (go_at_call 56; (with_reducible refine (spec_l1In.calls a0 1 12 false _ A5.out).mono ?_); rintro e w' ⟨rfl, ⟨nd, rfl⟩⟩; (try first | exact ⟨rfl, _, World.drewN_drewN _ _ _⟩ | exact ⟨rfl, _, Eq.trans (World.drewN_drewN _ _ _) (congrArg (World.drewN _) (Nat.add_assoc _ _ _))⟩)))
      repeat (go_quiet (first | (go_at_call 56; (with_reducible refine (spec_l1In.calls a0 1 12 false _ A5.out).mono ?_); rintro e w' ⟨rfl, ⟨nd, rfl⟩⟩; (try first | exact ⟨rfl, _, World.drewN_drewN _ _ _⟩ | exact ⟨rfl, _, Eq.trans (World.drewN_drewN _ _ _) (congrArg (World.drewN _) (Nat.add_assoc _ _ _))⟩))); try go_wp2_with (first | (go_at_call 56; (with_reducible refine (spec_l1In.calls a0 1 12 false _ A5.out).mono ?_); rintro e w' ⟨rfl, ⟨nd, rfl⟩⟩; (try first | exact ⟨rfl, _, World.drewN_drewN _ _ _⟩ | exact ⟨rfl, _, Eq.trans (World.drewN_drewN _ _ _) (congrArg (World.drewN _) (Nat.add_assoc _ _ _))⟩))))
      go_meet
      case rel => exact ⟨_, (true), (by first | rfl | (simp; done) | (simp [*]; done)), H', ⟨by first | omega | exact Nat.le_refl _⟩, ⟨by (with_reducible repeat (first | refine blk_drewN ?_ _ | refine blk_drew ?_ | refine blk_alloc ?_ _)); exact BK405.out⟩, ⟨by repeat (first | (with_reducible first | exact HB.out | apply below_alloc | apply pw_below_drewN | apply below_drew1 | refine below_set ?_ GE405.out) | exact HB.out)⟩⟩
  case rest =>
    clear HC3
    try clear c1
    try clear c2
    try clear p2
    try clear c6
    try clear p6
    try clear c7
    try clear c7b0
    try clear c7b1
    obtain ⟨kq, x26_2, rfl, HA, HJ2, BK405, HB⟩ := hcut
    cases kq with
    | zero => exact absurd HA.out (by simp [spec_CircleParty.j0])
    | succ kj2 =>
      have H := HA.out
      clear HA
      simp only [spec_CircleParty.j0] at H
      by_cases c9 : x26_2 = true
      · subst c9
        have H1 : (some (0, ([] : List (S63)), false)) = some (r1, r2, r3) := by rw [if_pos rfl] at H; exact H
        clear H
        have H := H1
        clear H1
        simp only [Option.some.injEq, Prod.mk.injEq] at H
        obtain ⟨rfl, rfl, rfl⟩ := H
        have hcz10_0 : wc.cell? ⟨gb405, 0, none⟩ = some (.int .i64 0) := (blk_cell BK405.out 0).trans rfl
        have hcz10_1 : wc.cell? ⟨gb405, 1, none⟩ = some (.slice none 0 0) := (blk_cell BK405.out 1).trans rfl
        have hfz10_0 := blk_frozen BK405.out 0
        have hfz10_1 := blk_frozen BK405.out 1
        go_wp2
        repeat (go_quiet (fail); try go_wp2)
        refine bodyPost_ret (results_ct rfl _ _ gb405 30 #[.int .i64 0, .slice none 0 0] (0, 0) _ rfl (by (with_reducible repeat (first | refine blk_drewN ?_ _ | refine blk_drew ?_ | refine blk_alloc ?_ _)); refine blk_put (cs := #[.int .i64 0, .slice none 0 0]) ?_ 1 _ rfl; (with_reducible repeat (first | refine blk_drewN ?_ _ | refine blk_drew ?_ | refine blk_alloc ?_ _)); refine blk_put (cs := #[.int .i64 0, .slice none 0 0]) ?_ 0 _ rfl; (with_reducible repeat (first | refine blk_drewN ?_ _ | refine blk_drew ?_ | refine blk_alloc ?_ _)); exact BK405.out) Try.underlying30 rfl (by kernel_rfl)) rfl ?_
        exact ⟨_, by first | rfl | (simp [errW_none, errW_some] <;> rfl) | (simp [*, errW_none, errW_some] <;> rfl), by first | exact Kd.R_nil _ _ _ _ _ | exact Kd.N_nil _ _ _ _ _ | exact Kd.V_nil _ _ _ _ _ | exact Kd.Q_nil _ _ _ _ _ | exact Kd.S_nil _ _ _ _ _, by repeat (first | (with_reducible first | exact HB.out | apply below_alloc | apply pw_below_drewN | apply below_drew1 | refine below_set ?_ GE405.out) | exact HB.out)⟩
      · replace c9 := Bool.eq_false_iff.mpr c9
        subst c9
        have H1 : (spec_CircleParty.l0 kj2 a0 l1 1) = some (r1, r2, r3) := by rw [if_neg (show ¬ (false = true) by decide)] at H; exact H
        clear H
        have H := H1
        clear H1
        have H' := Aside0.mk H
        clear H
        go_wp2
        repeat (go_quiet (fail); try go_wp2)
        go_loopg [6] kj2 (fun kq v6 w' => ∃ (x6_2 : Int) (x406000_2 : Int), v6 = .int .i64 x6_2 ∧ Aside0 (spec_CircleParty.l0 kq a0 l1 x6_2 = some (r1, r2, r3)) ∧ Aside0 (kq ≤ kj2) ∧ Aside0 (w'.heap[gb405]? = some (.cells #[.int .i64 x406000_2, (.slice none 0 0)] 30 (0, 0))) ∧ Aside0 (Below w.heap.size w w'))
        case atStart => exact ⟨(1), (0), (by first | rfl | (simp; done) | (simp [*]; done)), H', ⟨Nat.le_refl _⟩, ⟨by (with_reducible repeat (first | refine blk_drewN ?_ _ | refine blk_drew ?_ | refine blk_alloc ?_ _)); exact BK405.out⟩, ⟨by repeat (first | (with_reducible first | exact HB.out | apply below_alloc | apply pw_below_drewN | apply below_drew1 | refine below_set ?_ GE405.out) | exact HB.out)⟩⟩
        case round =>
          clear H'
          try clear c1
          try clear c2
          try clear p2
          try clear c6
          try clear p6
          try clear c7
          try clear c7b0
          try clear c7b1
          try clear c9
          try clear hcz10_0
          try clear hcz10_1
          try clear hfz10_0
          try clear hfz10_1
          try clear p2
          try clear p6
          obtain ⟨x6_2, x406000_2, rfl, HA, HK2, BK405, HB⟩ := hrel
          cases gk with
          | zero => exact absurd HA.out (by simp [spec_CircleParty.l0])
          | succ k2 =>
            have H := HA.out
            clear HA
            simp only [spec_CircleParty.l0] at H
            by_cases c11 : x6_2 < (l1.length : Int)
            · rw [if_pos c11] at H
              have c11b0 : decide (x6_2 < (l1.length : Int)) = true := decide_eq_true c11
              clear c11
              obtain ⟨ji12, hji12⟩ : ∃ j_ : Int, (wrap64 (x6_2 - 1)) = j_ := ⟨_, rfl⟩
              replace H : (if 0 ≤ (ji12) then (if (ji12) < (l1.length : Int) then (if 0 ≤ x6_2 then (if (rd l1 (ji12)) ≥ (rd l1 x6_2) then (some (0, ([] : List (S63)), false)) else (spec_CircleParty.l0 k2 a0 l1 (wrap64 (x6_2 + 1)))) else (none)) else (none)) else (none)) = some (r1, r2, r3) := by first | (rw [hji12] at H; exact H) | (simp only [hji12] at H ⊢; exact H)
              have hji12w : (IntKind.i64.wrap (x6_2 - 1)) = ji12 := (i64_w _).trans hji12
              by_cases c13 : 0 ≤ (ji12)
              · rw [if_pos c13] at H
                have c13b0 : decide (0 ≤ (ji12)) = true := decide_eq_true c13
                clear c13
                by_cases c14 : (ji12) < (l1.length : Int)
                · rw [if_pos c14] at H
                  have c14b0 : decide ((ji12) < (l1.length : Int)) = true := decide_eq_true c14
                  clear c14
                  by_cases c15 : 0 ≤ x6_2
                  · rw [if_pos c15] at H
                    have c15b0 : decide (0 ≤ x6_2) = true := decide_eq_true c15
                    clear c15
                    by_cases c16 : (rd l1 (ji12)) ≥ (rd l1 x6_2)
                    · rw [if_pos c16] at H
                      have c16b0 : decide ((rd l1 x6_2) ≤ (rd l1 (ji12))) = true := decide_eq_true c16
                      clear c16
                      simp only [Option.some.injEq, Prod.mk.injEq] at H
                      obtain ⟨rfl, rfl, rfl⟩ := H
                      have p408 : 0 ≤ ((ji12) : Int) := of_decide_eq_true (by first | (with_reducible assumption) | assumption)
                      have q408 : (ji12) < (l1.length : Int) := of_decide_eq_true (by first | (with_reducible assumption) | assumption)
                      obtain ⟨ad408, e408, hx408_0⟩ := Kd.at_int HR1.out (ji12) p408 q408
                      cases e408
                      replace hx408_0 := (HB.out.cell (World.block_lt_of_cell? w _ hx408_0)).trans hx408_0
                      replace p408 := eq_true p408
                      replace q408 := eq_true q408
                      have p409 : 0 ≤ (x6_2 : Int) := of_decide_eq_true (by first | (with_reducible assumption) | assumption)
                      have q409 : x6_2 < (l1.length : Int) := of_decide_eq_true (by first | (with_reducible assumption) | assumption)
                      obtain ⟨ad409, e409, hx409_0⟩ := Kd.at_int HR1.out x6_2 p409 q409
                      obtain rfl : ad408 = ad409 := (by injection e409)
                      replace hx409_0 := (HB.out.cell (World.block_lt_of_cell? w _ hx409_0)).trans hx409_0
                      replace p409 := eq_true p409
                      replace q409 := eq_true q409
                      have hcz17_0 : wr.cell? ⟨gb405, 0, none⟩ = some (.int .i64 x406000_2) := (blk_cell BK405.out 0).trans rfl
                      have hcz17_1 : wr.cell? ⟨gb405, 1, none⟩ = some (.slice none 0 0) := (blk_cell BK405.out 1).trans rfl
                      have hfz17_0 := blk_frozen BK405.out 0
                      have hfz17_1 := blk_frozen BK405.out 1
                      go_wp2
                      repeat (go_quiet (fail); try go_wp2)
                      refine bodyPost_ret (results_ct rfl _ _ gb405 30 #[.int .i64 0, .slice none 0 0] (0, 0) _ rfl (by (with_reducible repeat (first | refine blk_drewN ?_ _ | refine blk_drew ?_ | refine blk_alloc ?_ _)); refine blk_put (cs := #[.int .i64 0, .slice none 0 0]) ?_ 1 _ rfl; (with_reducible repeat (first | refine blk_drewN ?_ _ | refine blk_drew ?_ | refine blk_alloc ?_ _)); refine blk_put (cs := #[.int .i64 x406000_2, .slice none 0 0]) ?_ 0 _ rfl; (with_reducible repeat (first | refine blk_drewN ?_ _ | refine blk_drew ?_ | refine blk_alloc ?_ _)); exact BK405.out) Try.underlying30 rfl (by kernel_rfl)) rfl ?_
                      exact ⟨_, by first | rfl | (simp [errW_none, errW_some] <;> rfl) | (simp only [← hji12]; first | rfl | (simp [errW_none, errW_some] <;> rfl)) | (simp [*, errW_none, errW_some] <;> rfl), by first | exact Kd.R_nil _ _ _ _ _ | exact Kd.N_nil _ _ _ _ _ | exact Kd.V_nil _ _ _ _ _ | exact Kd.Q_nil _ _ _ _ _ | exact Kd.S_nil _ _ _ _ _, by repeat (first | (with_reducible first | exact HB.out | apply below_alloc | apply pw_below_drewN | apply below_drew1 | refine below_set ?_ GE405.out) | exact HB.out)⟩
                    · rw [if_neg c16] at H
                      have c16b0 : decide ((rd l1 x6_2) ≤ (rd l1 (ji12))) = false := decide_eq_false c16
                      clear c16
                      have H' := Aside0.mk H
                      clear H
                      have p408 : 0 ≤ ((ji12) : Int) := of_decide_eq_true (by first | (with_reducible assumption) | assumption)
                      have q408 : (ji12) < (l1.length : Int) := of_decide_eq_true (by first | (with_reducible assumption) | assumption)
                      obtain ⟨ad408, e408, hx408_0⟩ := Kd.at_int HR1.out (ji12) p408 q408
                      cases e408
                      replace hx408_0 := (HB.out.cell (World.block_lt_of_cell? w _ hx408_0)).trans hx408_0
                      replace p408 := eq_true p408
                      replace q408 := eq_true q408
                      have p409 : 0 ≤ (x6_2 : Int) := of_decide_eq_true (by first | (with_reducible assumption) | assumption)
                      have q409 : x6_2 < (l1.length : Int) := of_decide_eq_true (by first | (with_reducible assumption) | assumption)
                      obtain ⟨ad409, e409, hx409_0⟩ := Kd.at_int HR1.out x6_2 p409 q409
                      obtain rfl : ad408 = ad409 := (by injection e409)
                      replace hx409_0 := (HB.out.cell (World.block_lt_of_cell? w _ hx409_0)).trans hx409_0
                      replace p409 := eq_true p409
                      replace q409 := eq_true q409
                      go_wp2
                      repeat (go_quiet (fail); try go_wp2)
                      go_roundg k2
                      case measure => have := HJ2.out; have := HK2.out; omega
                      case rel => exact ⟨(wrap64 (x6_2 + 1)), (x406000_2), (by first | rfl | (simp; done) | (simp [*]; done)), H', ⟨by have := HJ2.out; have := HK2.out; omega⟩, ⟨by (with_reducible repeat (first | refine blk_drewN ?_ _ | refine blk_drew ?_ | refine blk_alloc ?_ _)); exact BK405.out⟩, ⟨by repeat (first | (with_reducible first | exact HB.out | apply below_alloc | apply pw_below_drewN | apply below_drew1 | refine below_set ?_ GE405.out) | exact HB.out)⟩⟩
                  · rw [if_neg c15] at H
                    exact absurd H (by simp)
                · rw [if_neg c14] at H
                  exact absurd H (by simp)
              · rw [if_neg c13] at H
                exact absurd H (by simp)
            · rw [if_neg c11] at H
              have c11b0 : decide (x6_2 < (l1.length : Int)) = false := decide_eq_false c11
              clear c11
              replace H := Option.bind_eq_some_iff.mp H
              obtain ⟨t410, A180, H⟩ := H
              replace H : (spec_CircleParty.l1 k2 a0 l1 t410 (t410.length : Int) 0) = some (r1, r2, r3) := H
              have A18 := Aside0.mk A180
              clear A180
              have H' := Aside0.mk H
              clear H
              go_wp2_with (first | (go_at_call 58; (refine (spec_paTable.calls k2 a0 _ _ ([] : List (S63)) t410 _ ?side1 ?side2 A18.out).mono ?_); (case side1 => exact Kd.C_nil _ _); (case side2 => exact Nat.le_refl _); rintro e w19 ⟨v411, rfl, ho0, hb⟩; have n0_ := Aside0.mk (Kd.S_lower ho0 (below_size (by repeat (first | (with_reducible first | exact HB.out | apply below_alloc | apply pw_below_drewN | apply below_drew1 | refine below_set ?_ GE405.out) | exact HB.out)))); have n1_ := Aside0.mk (blk_below (g := gb405) (o := .cells #[.int .i64 x406000_2, .slice none 0 0] 30 (0, 0)) (by (with_reducible repeat (first | refine blk_drewN ?_ _ | refine blk_drew ?_ | refine blk_alloc ?_ _)); exact BK405.out) hb); have n2_ := Aside0.mk (below_step (by repeat (first | (with_reducible first | exact HB.out | apply below_alloc | apply pw_below_drewN | apply below_drew1 | refine below_set ?_ GE405.out) | exact HB.out)) hb); clear BK405; clear HB; have HO412 := n0_; have BK405 := n1_; have HB := n2_; clear n0_ n1_ n2_; (try clear hb); (try clear hb2); (try clear hk); (try clear hi); (try clear ho0); obtain ⟨Ao20, co20, eo20⟩ := Kd.S_slice HO412.out; subst eo20))
              repeat (go_quiet (first | (go_at_call 58; (refine (spec_paTable.calls k2 a0 _ _ ([] : List (S63)) t410 _ ?side1 ?side2 A18.out).mono ?_); (case side1 => exact Kd.C_nil _ _); (case side2 => exact Nat.le_refl _); rintro e w19 ⟨v411, rfl, ho0, hb⟩; have n0_ := Aside0.mk (Kd.S_lower ho0 (below_size (by repeat (first | (with_reducible first | exact HB.out | apply below_alloc | apply pw_below_drewN | apply below_drew1 | refine below_set ?_ GE405.out) | exact HB.out)))); have n1_ := Aside0.mk (blk_below (g := gb405) (o := .cells #[.int .i64 x406000_2, .slice none 0 0] 30 (0, 0)) (by (with_reducible repeat (first | refine blk_drewN ?_ _ | refine blk_drew ?_ | refine blk_alloc ?_ _)); exact BK405.out) hb); have n2_ := Aside0.mk (below_step (by repeat (first | (with_reducible first | exact HB.out | apply below_alloc | apply pw_below_drewN | apply below_drew1 | refine below_set ?_ GE405.out) | exact HB.out)) hb); clear BK405; clear HB; have HO412 := n0_; have BK405 := n1_; have HB := n2_; clear n0_ n1_ n2_; (try clear hb); (try clear hb2); (try clear hk); (try clear hi); (try clear ho0); obtain ⟨Ao20, co20, eo20⟩ := Kd.S_slice HO412.out; subst eo20)); try go_wp2_with (first | (go_at_call 58; (refine (spec_paTable.calls k2 a0 _ _ ([] : List (S63)) t410 _ ?side1 ?side2 A18.out).mono ?_); (case side1 => exact Kd.C_nil _ _); (case side2 => exact Nat.le_refl _); rintro e w19 ⟨v411, rfl, ho0, hb⟩; have n0_ := Aside0.mk (Kd.S_lower ho0 (below_size (by repeat (first | (with_reducible first | exact HB.out | apply below_alloc | apply pw_below_drewN | apply below_drew1 | refine below_set ?_ GE405.out) | exact HB.out)))); have n1_ := Aside0.mk (blk_below (g := gb405) (o := .cells #[.int .i64 x406000_2, .slice none 0 0] 30 (0, 0)) (by (with_reducible repeat (first | refine blk_drewN ?_ _ | refine blk_drew ?_ | refine blk_alloc ?_ _)); exact BK405.out) hb); have n2_ := Aside0.mk (below_step (by repeat (first | (with_reducible first | exact HB.out | apply below_alloc | apply pw_below_drewN | apply below_drew1 | refine below_set ?_ GE405.out) | exact HB.out)) hb); clear BK405; clear HB; have HO412 := n0_; have BK405 := n1_; have HB := n2_; clear n0_ n1_ n2_; (try clear hb); (try clear hb2); (try clear hk); (try clear hi); (try clear ho0); obtain ⟨Ao20, co20, eo20⟩ := Kd.S_slice HO412.out; subst eo20)))
              go_loopg [50] k2 (fun kq v50 w' => ∃ (x7_3 : List (List Bool)) (x50_3 : Int), v50 = .int .i64 x50_3 ∧ Aside0 (spec_CircleParty.l1 kq a0 l1 x7_3 (t410.length : Int) x50_3 = some (r1, r2, r3)) ∧ Aside0 (kq ≤ k2) ∧ Aside0 (Kd.S (Kd.slice 4 Kd.bool) 76 w' w.heap.size (fun _ => True) (.slice Ao20 t410.length co20) x7_3) ∧ Aside0 (w'.heap[gb405]? = some (.cells #[.int .i64 x406000_2, (.slice none 0 0)] 30 (0, 0))) ∧ Aside0 (Below w.heap.size w w'))
              case atStart => exact ⟨(t410), (0), (by first | rfl | (simp; done) | (simp [*]; done)), H', ⟨Nat.le_refl _⟩, ⟨by (with_reducible repeat (first | apply Kd.S_alloc | apply Kd.S_drewN | apply Kd.S_drew)); exact HO412.out⟩, ⟨by (with_reducible repeat (first | refine blk_drewN ?_ _ | refine blk_drew ?_ | refine blk_alloc ?_ _)); exact BK405.out⟩, ⟨by repeat (first | (with_reducible first | exact HB.out | apply below_alloc | apply pw_below_drewN | apply below_drew1 | refine below_set ?_ GE405.out) | exact HB.out)⟩⟩
              case round =>
                clear H'
                try clear c1
                try clear c2
                try clear p2
                try clear p4
                try clear q4
                try clear hx4
                try clear c6
                try clear p6
                try clear c7
                try clear c7b0
                try clear c7b1
                try clear c9
                try clear c11
                try clear c11b0
                try clear c13
                try clear c13b0
                try clear c14
                try clear c14b0
                try clear c15
                try clear c15b0
                try clear c16
                try clear c16b0
                try clear hcz10_0
                try clear hcz10_1
                try clear hcz17_0
                try clear hcz17_1
                try clear hfz10_0
                try clear hfz10_1
                try clear hfz17_0
                try clear hfz17_1
                try clear hx408_0
                try clear hx409_0
                try clear p2
                try clear p408
                try clear p409
                try clear p6
                try clear q408
                try clear q409
                obtain ⟨x7_3, x50_3, rfl, HA, HK3, HO_7, BK405, HB⟩ := hrel
                have hl7_3 := (Kd.S_reads' HO_7.out).1
                rw [hl7_3] at HO_7
                (try simp only [hl7_3])
                (try simp only [hl7_3] at BK405)
                cases gk with
                | zero => exact absurd HA.out (by simp [spec_CircleParty.l1])
                | succ k3 =>
                  have H := HA.out
                  clear HA
                  simp only [spec_CircleParty.l1] at H
                  by_cases c21 : x50_3 < (t410.length : Int)
                  · rw [if_pos c21] at H
                    have c21b0 : decide (x50_3 < (t410.length : Int)) = true := decide_eq_true c21
                    (try (have c21b0_0 := c21b0; simp only [hl7_3] at c21b0_0))
                    clear c21
                    have H' := Aside0.mk H
                    clear H
                    go_wp2
                    repeat (go_quiet (fail); try go_wp2)
                    go_loopg [55] k3 (fun kq v55 w' => ∃ (x7_4 : List (List Bool)) (x55_4 : Int), v55 = .int .i64 x55_4 ∧ Aside0 (spec_CircleParty.l2 kq a0 l1 x7_4 x50_3 (t410.length : Int) x50_3 l1 (l1.length : Int) x55_4 = some (r1, r2, r3)) ∧ Aside0 (kq ≤ k3) ∧ Aside0 (Kd.S (Kd.slice 4 Kd.bool) 76 w' w.heap.size (fun _ => True) (.slice Ao20 x7_3.length co20) x7_4) ∧ Aside0 (w'.heap[gb405]? = some (.cells #[.int .i64 x406000_2, (.slice none 0 0)] 30 (0, 0))) ∧ Aside0 (Below w.heap.size w w'))
                    case atStart => exact ⟨(x7_3), (0), (by first | rfl | (simp; done) | (simp [*]; done)), H', ⟨Nat.le_refl _⟩, ⟨by (try simp only [hl7_3]); (with_reducible repeat (first | apply Kd.S_alloc | apply Kd.S_drewN | apply Kd.S_drew)); exact HO_7.out⟩, ⟨by (try simp only [hl7_3]); (with_reducible repeat (first | refine blk_drewN ?_ _ | refine blk_drew ?_ | refine blk_alloc ?_ _)); exact BK405.out⟩, ⟨by repeat (first | (with_reducible first | exact HB.out | apply below_alloc | apply pw_below_drewN | apply below_drew1 | refine below_set ?_ GE405.out) | exact HB.out)⟩⟩
                    case round =>
                      clear H'
                      try clear c1
                      try clear c2
                      try clear p2
                      try clear p4
                      try clear q4
                      try clear hx4
                      try clear c6
                      try clear p6
                      try clear c7
                      try clear c7b0
                      try clear c7b1
                      try clear c9
                      try clear c11
                      try clear c11b0
                      try clear c13
                      try clear c13b0
                      try clear c14
                      try clear c14b0
                      try clear c15
                      try clear c15b0
                      try clear c16
                      try clear c16b0
                      try clear c21
                      try clear c21b0
                      try clear hcz10_0
                      try clear hcz10_1
                      try clear hcz17_0
                      try clear hcz17_1
                      try clear hfz10_0
                      try clear hfz10_1
                      try clear hfz17_0
                      try clear hfz17_1
                      try clear hx408_0
                      try clear hx409_0
                      try clear p2
                      try clear p4
                      try clear p408
                      try clear p409
                      try clear p6
                      try clear q4
                      try clear q408
                      try clear q409
                      obtain ⟨x7_4, x55_4, rfl, HA, HK4, HO_7, BK405, HB⟩ := hrel
                      have hl7_4 := (Kd.S_reads' HO_7.out).1
                      rw [hl7_4] at HO_7
                      (try simp only [hl7_4])
                      (try simp only [hl7_4] at BK405)
                      cases gk with
                      | zero => exact absurd HA.out (by simp [spec_CircleParty.l2])
                      | succ k4 =>
                        have H := HA.out
                        clear HA
                        simp only [spec_CircleParty.l2] at H
                        by_cases c22 : x55_4 < (l1.length : Int)
                        · rw [if_pos c22] at H
                          have c22b0 : decide (x55_4 < (l1.length : Int)) = true := decide_eq_true c22
                          (try (have c22b0_0 := c22b0; simp only [hl7_3] at c22b0_0)); (try (have c22b0_1 := c22b0; simp only [hl7_4] at c22b0_1))
                          clear c22
                          by_cases c23 : 0 ≤ x55_4
                          · rw [if_pos c23] at H
                            have c23b0 : decide (0 ≤ x55_4) = true := decide_eq_true c23
                            clear c23
                            by_cases c24 : x55_4 < (l1.length : Int)
                            · rw [if_pos c24] at H
                              have c24b0 : decide (x55_4 < (l1.length : Int)) = true := decide_eq_true c24
                              (try (have c24b0_0 := c24b0; simp only [hl7_3] at c24b0_0)); (try (have c24b0_1 := c24b0; simp only [hl7_4] at c24b0_1))
                              clear c24
                              by_cases c25 : a0 = 0
                              · rw [if_pos c25] at H
                                exact absurd H (by simp)
                              · rw [if_neg c25] at H
                                have c25b0 : (a0 == 0) = false := beq_eq_false_iff_ne.mpr c25
                                have c25b1 : (a0 != 0) = true := bne_iff_ne.mpr c25
                                by_cases c26 : 0 ≤ x50_3
                                · rw [if_pos c26] at H
                                  have c26b0 : decide (0 ≤ x50_3) = true := decide_eq_true c26
                                  clear c26
                                  by_cases c27 : x50_3 < (x7_4.length : Int)
                                  · rw [if_pos c27] at H
                                    have c27b0 : decide (x50_3 < (x7_4.length : Int)) = true := decide_eq_true c27
                                    (try (have c27b0_0 := c27b0; simp only [hl7_3] at c27b0_0)); (try (have c27b0_1 := c27b0; simp only [hl7_4] at c27b0_1))
                                    clear c27
                                    obtain ⟨ji28, hji28⟩ : ∃ j_ : Int, (Int.tmod (wrap64 (x50_3 + (rd l1 x55_4))) a0) = j_ := ⟨_, rfl⟩
                                    replace H : (if 0 ≤ (ji28) then (if (ji28) < ((rd_L5 x7_4 x50_3).length : Int) then ((some (x7_4.set (x50_3 : Int).toNat ((rd_L5 x7_4 x50_3).set ((ji28) : Int).toNat true) : List (List Bool))).bind fun y421 => (if (ji28) < (x7_4.length : Int) then (if x50_3 < ((rd_L5 y421 (ji28)).length : Int) then (spec_CircleParty.l2 k4 a0 l1 (y421.set ((ji28) : Int).toNat ((rd_L5 y421 (ji28)).set (x50_3 : Int).toNat true)) x50_3 (t410.length : Int) x50_3 l1 (l1.length : Int) (wrap64 (x55_4 + 1))) else (none)) else (none))) else (none)) else (none)) = some (r1, r2, r3) := by first | (rw [hji28] at H; exact H) | (simp only [hji28] at H ⊢; exact H)
                                    by_cases c29 : 0 ≤ (ji28)
                                    · rw [if_pos c29] at H
                                      have c29b0 : decide (0 ≤ (ji28)) = true := decide_eq_true c29
                                      clear c29
                                      by_cases c30 : (ji28) < ((rd_L5 x7_4 x50_3).length : Int)
                                      · rw [if_pos c30] at H
                                        have c30b0 : decide ((ji28) < ((rd_L5 x7_4 x50_3).length : Int)) = true := decide_eq_true c30
                                        (try (have c30b0_0 := c30b0; simp only [hl7_3] at c30b0_0)); (try (have c30b0_1 := c30b0; simp only [hl7_4] at c30b0_1))
                                        clear c30
                                        obtain ⟨y419, hy419⟩ : ∃ y_ : List Bool, y_ = ((rd_L5 x7_4 x50_3).set ((ji28) : Int).toNat true) := ⟨_, rfl⟩
                                        replace H : ((some (x7_4.set (x50_3 : Int).toNat y419 : List (List Bool))).bind fun y421 => (if (ji28) < (x7_4.length : Int) then (if x50_3 < ((rd_L5 y421 (ji28)).length : Int) then (spec_CircleParty.l2 k4 a0 l1 (y421.set ((ji28) : Int).toNat ((rd_L5 y421 (ji28)).set (x50_3 : Int).toNat true)) x50_3 (t410.length : Int) x50_3 l1 (l1.length : Int) (wrap64 (x55_4 + 1))) else (none)) else (none))) = some (r1, r2, r3) := by first | (rw [hy419]; with_reducible exact H) | (have H2_ := (Option.bind_some _ _).symm.trans H; rw [hy419]; with_reducible exact H2_) | (have H2_ := (Option.bind_some _ _).symm.trans H; with_reducible exact H2_) | with_reducible exact H | (rw [hy419]; exact H) | exact H
                                        have Ny419 := Aside0.mk hy419
                                        clear hy419
                                        obtain ⟨y421, hy421⟩ : ∃ y_ : List (List Bool), y_ = (x7_4.set (x50_3 : Int).toNat y419) := ⟨_, rfl⟩
                                        replace H : (if (ji28) < (x7_4.length : Int) then (if x50_3 < ((rd_L5 y421 (ji28)).length : Int) then (spec_CircleParty.l2 k4 a0 l1 (y421.set ((ji28) : Int).toNat ((rd_L5 y421 (ji28)).set (x50_3 : Int).toNat true)) x50_3 (t410.length : Int) x50_3 l1 (l1.length : Int) (wrap64 (x55_4 + 1))) else (none)) else (none)) = some (r1, r2, r3) := by first | (rw [hy421]; with_reducible exact H) | (have H2_ := (Option.bind_some _ _).symm.trans H; rw [hy421]; with_reducible exact H2_) | (have H2_ := (Option.bind_some _ _).symm.trans H; with_reducible exact H2_) | with_reducible exact H | (rw [hy421]; exact H) | exact H
                                        have Ny421 := Aside0.mk hy421
                                        clear hy421
                                        by_cases c32 : (ji28) < (x7_4.length : Int)
                                        · rw [if_pos c32] at H
                                          have c32b0 : decide ((ji28) < (x7_4.length : Int)) = true := decide_eq_true c32
                                          (try (have c32b0_0 := c32b0; simp only [hl7_3] at c32b0_0)); (try (have c32b0_1 := c32b0; simp only [hl7_4] at c32b0_1))
                                          clear c32
                                          by_cases c33 : x50_3 < ((rd_L5 y421 (ji28)).length : Int)
                                          · rw [if_pos c33] at H
                                            have c33b0 : decide (x50_3 < ((rd_L5 y421 (ji28)).length : Int)) = true := decide_eq_true c33
                                            (try (have c33b0_0 := c33b0; simp only [hl7_3] at c33b0_0)); (try (have c33b0_1 := c33b0; simp only [hl7_4] at c33b0_1))
                                            clear c33
                                            obtain ⟨y423, hy423⟩ : ∃ y_ : List Bool, y_ = ((rd_L5 y421 (ji28)).set (x50_3 : Int).toNat true) := ⟨_, rfl⟩
                                            replace H : (spec_CircleParty.l2 k4 a0 l1 (y421.set ((ji28) : Int).toNat y423) x50_3 (t410.length : Int) x50_3 l1 (l1.length : Int) (wrap64 (x55_4 + 1))) = some (r1, r2, r3) := by first | (rw [hy423]; with_reducible exact H) | (have H2_ := (Option.bind_some _ _).symm.trans H; rw [hy423]; with_reducible exact H2_) | (have H2_ := (Option.bind_some _ _).symm.trans H; with_reducible exact H2_) | with_reducible exact H | (rw [hy423]; exact H) | exact H
                                            have Ny423 := Aside0.mk hy423
                                            clear hy423
                                            obtain ⟨y425, hy425⟩ : ∃ y_ : List (List Bool), y_ = (y421.set ((ji28) : Int).toNat y423) := ⟨_, rfl⟩
                                            replace H : (spec_CircleParty.l2 k4 a0 l1 y425 x50_3 (t410.length : Int) x50_3 l1 (l1.length : Int) (wrap64 (x55_4 + 1))) = some (r1, r2, r3) := by first | (rw [hy425]; with_reducible exact H) | (have H2_ := (Option.bind_some _ _).symm.trans H; rw [hy425]; with_reducible exact H2_) | (have H2_ := (Option.bind_some _ _).symm.trans H; with_reducible exact H2_) | with_reducible exact H | (rw [hy425]; exact H) | exact H
                                            have Ny425 := Aside0.mk hy425
                                            clear hy425
                                            have H' := Aside0.mk H
                                            clear H
                                            have p417 : 0 ≤ (x55_4 : Int) := of_decide_eq_true (by first | (with_reducible assumption) | assumption)
                                            have q417 : x55_4 < (l1.length : Int) := of_decide_eq_true (by first | (with_reducible assumption) | assumption)
                                            obtain ⟨ad417, e417, hx417_0⟩ := Kd.at_int HR1.out x55_4 p417 q417
                                            cases e417
                                            replace hx417_0 := (HB.out.cell (World.block_lt_of_cell? w _ hx417_0)).trans hx417_0
                                            replace p417 := eq_true p417
                                            replace q417 := eq_true q417
                                            have p418 : 0 ≤ (x50_3 : Int) := of_decide_eq_true (by first | (with_reducible assumption) | assumption)
                                            have q418 : x50_3 < (x7_4.length : Int) := of_decide_eq_true (by first | (with_reducible assumption) | assumption)
                                            obtain ⟨ad418, A418_0, c418_0, e418, hx418_0, hl418_0, hi418_0⟩ := at_L5 (Kd.S_reads' HO_7.out).2.2 x50_3 p418 q418
                                            cases e418
                                            obtain ⟨ce418, hce418, hMe418, hcc418⟩ := Kd.S_get HO_7.out [] x50_3 p418 (by first | exact q418 | exact of_decide_eq_true (by first | (with_reducible assumption) | assumption) | (have e_ := (Kd.S_reads' HO_7.out).1; omega))
                                            obtain ⟨ve418_0, rfl, ge418_0⟩ := hMe418
                                            have hv418_0 := hcc418 0 _ rfl
                                            rw [Nat.add_zero, show ((Kd.slice 4 Kd.bool)).sz = 1 from rfl, Nat.mul_one] at hv418_0
                                            replace hv418_0 := Option.some.inj (hv418_0.symm.trans hx418_0)
                                            rw [hv418_0] at ge418_0
                                            have HL418_0 := Aside0.mk (show Kd.R Kd.bool 4 _ _ _ _ (rd_L5 x7_4 x50_3) from ge418_0)
                                            clear hv418_0 ge418_0
                                            have HX418_0 := Aside0.mk hx418_0
                                            clear hcc418 hce418
                                            have HR418_0 := Aside0.mk hi418_0
                                            have HC418_0 := Aside0.mk hl418_0
                                            clear hi418_0 hl418_0
                                            replace p418 := eq_true p418
                                            replace q418 := eq_true q418
                                            have p31 : 0 ≤ ((ji28) : Int) := of_decide_eq_true (by first | (with_reducible assumption) | assumption)
                                            have q31 : ((ji28) : Int) < (((rd_L5 x7_4 x50_3).length : Int) : Int) := of_decide_eq_true (by first | (with_reducible assumption) | assumption)
                                            obtain ⟨go31, co31, eo31, gb31, gl31, cl31, HG31⟩ := Kd.R_form HL418_0.out (by omega)
                                            (first | cases eo31 | (injection eo31 with ea_ en_ ec_; (first | subst ea_ | (injection ea_ with ea_; subst ea_)); subst ec_; clear en_))
                                            have GB31 := Aside0.mk gb31
                                            have GG31 := Aside0.mk HG31
                                            clear gb31 gl31 HG31
                                            obtain ⟨hx31_0, hf31_0⟩ := Kd.R_celln false HL418_0.out ((ji28) : Int) p31 q31
                                            replace p31 := eq_true p31
                                            replace q31 := eq_true q31
                                            have hq35 : (x50_3 : Int) < (x7_4.length : Int) := (by have h_ : (x50_3 : Int) < ((x7_4.length : Int) : Int) := of_decide_eq_true (by first | (with_reducible assumption) | assumption); first | exact h_ | (have e_ := (Kd.S_reads' HO_7.out).1; omega) | simpa only [List.length_set, List.length_set] using h_)
                                            obtain ⟨oki35, ce35, hcl35, hM35, hcc35, hok35, hbk35⟩ := Kd.S_borrow HO_7.out [] (x50_3 : Int) (of_decide_eq_true (by first | (with_reducible assumption) | assumption)) (by first | exact hq35 | exact of_decide_eq_true (by first | (with_reducible assumption) | assumption) | (have e_ := (Kd.S_reads' HO_7.out).1; omega))
                                            obtain ⟨ve35_0, rfl, ge35_0⟩ := hM35
                                            have hv35 := hcc35 0 _ rfl
                                            rw [Nat.add_zero, show ((Kd.slice 4 Kd.bool)).sz = 1 from rfl, Nat.mul_one] at hv35
                                            replace hv35 := Option.some.inj (hv35.symm.trans HX418_0.out)
                                            subst hv35
                                            clear hcc35 hcl35
                                            replace ge35_0 := (show Kd.R Kd.bool 4 _ _ _ _ (rd_L5 x7_4 x50_3) from ge35_0)
                                            have HP35 := Kd.R_putg ge35_0 ((ji28) : Int) true
                                            go_wp2_with (first | ((with_reducible refine gate_store (t := 4) (p := 69) rfl ?_); (try (rw [drewN_self wr]; generalize hq_ : World.drewN wr _ = wr; have n0_ := Aside0.mk (Kd.S_at hq_ HO_7.out); have n1_ := Aside0.mk (Kd.R_at hq_ HL426.out); have n2_ := Aside0.mk (blk_at hq_ BK405.out); have n3_ := Aside0.mk (below_at hq_ HB.out); clear hq_ HO_7 HL426 BK405 HB; have HO_7 := n0_; have HL426 := n1_; have BK405 := n2_; have HB := n3_; clear n0_ n1_ n2_ n3_; (try (have hq35 : (x50_3 : Int) < (x7_4.length : Int) := (by have h_ : (x50_3 : Int) < ((x7_4.length : Int) : Int) := of_decide_eq_true (by first | (with_reducible assumption) | assumption); first | exact h_ | (have e_ := (Kd.S_reads' HO_7.out).1; omega) | simpa only [List.length_set, List.length_set] using h_))); (try (obtain ⟨oki35, ce35, hcl35, hM35, hcc35, hok35, hbk35⟩ := Kd.S_borrow HO_7.out [] (x50_3 : Int) (of_decide_eq_true (by first | (with_reducible assumption) | assumption)) hq35)); (try (obtain ⟨ve35_0, rfl, ge35_0⟩ := hM35)); (try (have hv35 := hcc35 0 _ rfl)); (try (rw [Nat.add_zero, show ((Kd.slice 4 Kd.bool)).sz = 1 from rfl, Nat.mul_one] at hv35)); (try (replace hv35 := Option.some.inj (hv35.symm.trans HX418_0.out))); (try (subst hv35)); (try (clear hcc35 hcl35)); (try (replace ge35_0 := (show Kd.R Kd.bool 4 _ _ _ _ (rd_L5 x7_4 x50_3) from ge35_0))); (try (have HP35 := Kd.R_putg ge35_0 ((ji28) : Int) true)))); refine store_event (t := 4) (p := 69) (v := ?vo_w36) (w1 := (wr.setCell ⟨go31, ((ji28) : Int).toNat, none⟩ (.bool true))) ?hg ?ho ?hn ?hr ?_; (case ho => rfl); (case hg => rfl); (case hn => rfl); (case hr => first | (go_simp; done) | (go_simp; rfl)); intro w36 hw; have hg : wr.grownBy w36 (some go31) := (by rw [hw]; exact HP35.2); have hz_ : Kd.R Kd.bool 4 w36 w.heap.size oki35 (.slice (some ⟨go31, 0, none⟩) (rd_L5 x7_4 x50_3).length c418_0) y419 := (by rw [hw, Ny419.out]; exact HP35.1); have hp_ : Kd.S (Kd.slice 4 Kd.bool) 76 w36 w.heap.size (fun _ => True) (.slice (some ad418) x7_4.length co20) y421 := (by rw [Ny421.out]; exact hbk35 hg (fun k_ e_ => by injection e_ with e_; subst e_; exact ge35_0.1 _ rfl) (Kd.M_row hz_)); have hm_ := Kd.R_mono hz_ hok35; clear HP35 hbk35; have n0_ := Aside0.mk (hp_); have n1_ := Aside0.mk (blk_grown (g := gb405) (o := .cells #[.int .i64 x406000_2, .slice none 0 0] 30 (0, 0)) (by (with_reducible repeat (first | refine blk_drewN ?_ _ | refine blk_drew ?_ | refine blk_alloc ?_ _)); exact BK405.out) hg (Kd.R_ne HL418_0.out BK405.out (by decide))); have n2_ := Aside0.mk ((by rw [hw]; exact below_set (HB.out) GB31.out : Below w.heap.size w w36)); have n3_ := Aside0.mk (hm_); have n4_ := Aside0.mk ((Kd.R_reads' hm_).2.1); clear HO_7; clear BK405; clear HB; clear HL418_0; have HO_7 := n0_; have BK405 := n1_; have HB := n2_; have HL426 := n3_; have HC420 := n4_; clear n0_ n1_ n2_ n3_ n4_; clear hg hw hp_ hz_ hm_ hok35; have p422 : 0 ≤ ((ji28) : Int) := of_decide_eq_true (by first | (with_reducible assumption) | assumption); have q422 : (ji28) < (y421.length : Int) := (by have h_ : ((ji28) : Int) < ((x7_4.length : Int) : Int) := of_decide_eq_true (by first | (with_reducible assumption) | assumption); first | (have e_ := (Kd.S_reads' HO_7.out).1; omega) | simpa only [Ny421.out, List.length_set] using h_); have ql422 : (((ji28) : Int) < ((x7_4.length : Int) : Int)) = True := eq_true (of_decide_eq_true (by first | (with_reducible assumption) | assumption)); obtain ⟨ad422, A422_0, c422_0, e422, hx422_0, hl422_0, hi422_0⟩ := at_L5 (Kd.S_reads' HO_7.out).2.2 (ji28) p422 q422; obtain rfl : ad418 = ad422 := (by injection e422); obtain ⟨ce422, hce422, hMe422, hcc422⟩ := Kd.S_get HO_7.out [] (ji28) p422 (by first | exact q422 | exact of_decide_eq_true (by first | (with_reducible assumption) | assumption) | (have e_ := (Kd.S_reads' HO_7.out).1; omega)); obtain ⟨ve422_0, rfl, ge422_0⟩ := hMe422; have hv422_0 := hcc422 0 _ rfl; rw [Nat.add_zero, show ((Kd.slice 4 Kd.bool)).sz = 1 from rfl, Nat.mul_one] at hv422_0; replace hv422_0 := Option.some.inj (hv422_0.symm.trans hx422_0); rw [hv422_0] at ge422_0; have HL422_0 := Aside0.mk (show Kd.R Kd.bool 4 _ _ _ _ (rd_L5 y421 (ji28)) from ge422_0); clear hv422_0 ge422_0; have HX422_0 := Aside0.mk hx422_0; clear hcc422 hce422; have HR422_0 := Aside0.mk hi422_0; have HC422_0 := Aside0.mk hl422_0; clear hi422_0 hl422_0; replace p422 := eq_true p422; replace q422 := eq_true q422; have p34 : 0 ≤ (x50_3 : Int) := of_decide_eq_true (by first | (with_reducible assumption) | assumption); have q34 : (x50_3 : Int) < (((rd_L5 y421 (ji28)).length : Int) : Int) := of_decide_eq_true (by first | (with_reducible assumption) | assumption); obtain ⟨go34, co34, eo34, gb34, gl34, cl34, HG34⟩ := Kd.R_form HL422_0.out (by omega); (first | cases eo34 | (injection eo34 with ea_ en_ ec_; (first | subst ea_ | (injection ea_ with ea_; subst ea_)); subst ec_; clear en_)); have GB34 := Aside0.mk gb34; have GG34 := Aside0.mk HG34; clear gb34 gl34 HG34; obtain ⟨hx34_0, hf34_0⟩ := Kd.R_celln false HL422_0.out (x50_3 : Int) p34 q34; replace p34 := eq_true p34; replace q34 := eq_true q34; have hq37 : ((ji28) : Int) < (y421.length : Int) := (by have h_ : ((ji28) : Int) < ((x7_4.length : Int) : Int) := of_decide_eq_true (by first | (with_reducible assumption) | assumption); first | exact h_ | (have e_ := (Kd.S_reads' HO_7.out).1; omega) | simpa only [Ny421.out, List.length_set] using h_); obtain ⟨oki37, ce37, hcl37, hM37, hcc37, hok37, hbk37⟩ := Kd.S_borrow HO_7.out [] ((ji28) : Int) (of_decide_eq_true (by first | (with_reducible assumption) | assumption)) (by first | exact hq37 | exact of_decide_eq_true (by first | (with_reducible assumption) | assumption) | (have e_ := (Kd.S_reads' HO_7.out).1; omega)); obtain ⟨ve37_0, rfl, ge37_0⟩ := hM37; have hv37 := hcc37 0 _ rfl; rw [Nat.add_zero, show ((Kd.slice 4 Kd.bool)).sz = 1 from rfl, Nat.mul_one] at hv37; replace hv37 := Option.some.inj (hv37.symm.trans HX422_0.out); subst hv37; clear hcc37 hcl37; replace ge37_0 := (show Kd.R Kd.bool 4 _ _ _ _ (rd_L5 y421 (ji28)) from ge37_0); have HP37 := Kd.R_putg ge37_0 (x50_3 : Int) true) | ((with_reducible refine gate_store (t := 4) (p := 75) rfl ?_); (try (rw [drewN_self w36]; generalize hq_ : World.drewN w36 _ = w36; have n0_ := Aside0.mk (Kd.S_at hq_ HO_7.out); have n1_ := Aside0.mk (Kd.R_at hq_ HL427.out); have n2_ := Aside0.mk (blk_at hq_ BK405.out); have n3_ := Aside0.mk (below_at hq_ HB.out); clear hq_ HO_7 HL427 BK405 HB; have HO_7 := n0_; have HL427 := n1_; have BK405 := n2_; have HB := n3_; clear n0_ n1_ n2_ n3_; (try (have hq37 : ((ji28) : Int) < (y421.length : Int) := (by have h_ : ((ji28) : Int) < ((x7_4.length : Int) : Int) := of_decide_eq_true (by first | (with_reducible assumption) | assumption); first | exact h_ | (have e_ := (Kd.S_reads' HO_7.out).1; omega) | simpa only [Ny421.out, List.length_set] using h_))); (try (obtain ⟨oki37, ce37, hcl37, hM37, hcc37, hok37, hbk37⟩ := Kd.S_borrow HO_7.out [] ((ji28) : Int) (of_decide_eq_true (by first | (with_reducible assumption) | assumption)) hq37)); (try (obtain ⟨ve37_0, rfl, ge37_0⟩ := hM37)); (try (have hv37 := hcc37 0 _ rfl)); (try (rw [Nat.add_zero, show ((Kd.slice 4 Kd.bool)).sz = 1 from rfl, Nat.mul_one] at hv37)); (try (replace hv37 := Option.some.inj (hv37.symm.trans HX422_0.out))); (try (subst hv37)); (try (clear hcc37 hcl37)); (try (replace ge37_0 := (show Kd.R Kd.bool 4 _ _ _ _ (rd_L5 y421 (ji28)) from ge37_0))); (try (have HP37 := Kd.R_putg ge37_0 (x50_3 : Int) true)))); refine store_event (t := 4) (p := 75) (v := ?vo_w38) (w1 := (w36.setCell ⟨go34, (x50_3 : Int).toNat, none⟩ (.bool true))) ?hg ?ho ?hn ?hr ?_; (case ho => rfl); (case hg => rfl); (case hn => rfl); (case hr => first | (go_simp; done) | (go_simp; rfl)); intro w38 hw; have hg : w36.grownBy w38 (some go34) := (by rw [hw]; exact HP37.2); have hz_ : Kd.R Kd.bool 4 w38 w.heap.size oki37 (.slice (some ⟨go34, 0, none⟩) (rd_L5 y421 (ji28)).length c422_0) y423 := (by rw [hw, Ny423.out]; exact HP37.1); have hp_ : Kd.S (Kd.slice 4 Kd.bool) 76 w38 w.heap.size (fun _ => True) (.slice (some ad418) x7_4.length co20) y425 := (by rw [Ny425.out]; exact hbk37 hg (fun k_ e_ => by injection e_ with e_; subst e_; exact ge37_0.1 _ rfl) (Kd.M_row hz_)); have hm_ := Kd.R_mono hz_ hok37; clear HP37 hbk37; have n0_ := Aside0.mk (hp_); have n1_ := Aside0.mk (blk_grown (g := gb405) (o := .cells #[.int .i64 x406000_2, .slice none 0 0] 30 (0, 0)) (by (with_reducible repeat (first | refine blk_drewN ?_ _ | refine blk_drew ?_ | refine blk_alloc ?_ _)); exact BK405.out) hg (Kd.R_ne HL422_0.out BK405.out (by decide))); have n2_ := Aside0.mk ((by rw [hw]; exact below_set (HB.out) GB34.out : Below w.heap.size w w38)); have n3_ := Aside0.mk (hm_); have n4_ := Aside0.mk ((Kd.R_reads' hm_).2.1); clear HO_7; clear BK405; clear HB; clear HL426; clear HL422_0; have HO_7 := n0_; have BK405 := n1_; have HB := n2_; have HL427 := n3_; have HC424 := n4_; clear n0_ n1_ n2_ n3_ n4_; clear hg hw hp_ hz_ hm_ hok37))
                                            repeat (go_quiet (first | ((with_reducible refine gate_store (t := 4) (p := 69) rfl ?_); (try (rw [drewN_self wr]; generalize hq_ : World.drewN wr _ = wr; have n0_ := Aside0.mk (Kd.S_at hq_ HO_7.out); have n1_ := Aside0.mk (Kd.R_at hq_ HL426.out); have n2_ := Aside0.mk (blk_at hq_ BK405.out); have n3_ := Aside0.mk (below_at hq_ HB.out); clear hq_ HO_7 HL426 BK405 HB; have HO_7 := n0_; have HL426 := n1_; have BK405 := n2_; have HB := n3_; clear n0_ n1_ n2_ n3_; (try (have hq35 : (x50_3 : Int) < (x7_4.length : Int) := (by have h_ : (x50_3 : Int) < ((x7_4.length : Int) : Int) := of_decide_eq_true (by first | (with_reducible assumption) | assumption); first | exact h_ | (have e_ := (Kd.S_reads' HO_7.out).1; omega) | simpa only [List.length_set, List.length_set] using h_))); (try (obtain ⟨oki35, ce35, hcl35, hM35, hcc35, hok35, hbk35⟩ := Kd.S_borrow HO_7.out [] (x50_3 : Int) (of_decide_eq_true (by first | (with_reducible assumption) | assumption)) hq35)); (try (obtain ⟨ve35_0, rfl, ge35_0⟩ := hM35)); (try (have hv35 := hcc35 0 _ rfl)); (try (rw [Nat.add_zero, show ((Kd.slice 4 Kd.bool)).sz = 1 from rfl, Nat.mul_one] at hv35)); (try (replace hv35 := Option.some.inj (hv35.symm.trans HX418_0.out))); (try (subst hv35)); (try (clear hcc35 hcl35)); (try (replace ge35_0 := (show Kd.R Kd.bool 4 _ _ _ _ (rd_L5 x7_4 x50_3) from ge35_0))); (try (have HP35 := Kd.R_putg ge35_0 ((ji28) : Int) true)))); refine store_event (t := 4) (p := 69) (v := ?vo_w36) (w1 := (wr.setCell ⟨go31, ((ji28) : Int).toNat, none⟩ (.bool true))) ?hg ?ho ?hn ?hr ?_; (case ho => rfl); (case hg => rfl); (case hn => rfl); (case hr => first | (go_simp; done) | (go_simp; rfl)); intro w36 hw; have hg : wr.grownBy w36 (some go31) := (by rw [hw]; exact HP35.2); have hz_ : Kd.R Kd.bool 4 w36 w.heap.size oki35 (.slice (some ⟨go31, 0, none⟩) (rd_L5 x7_4 x50_3).length c418_0) y419 := (by rw [hw, Ny419.out]; exact HP35.1); have hp_ : Kd.S (Kd.slice 4 Kd.bool) 76 w36 w.heap.size (fun _ => True) (.slice (some ad418) x7_4.length co20) y421 := (by rw [Ny421.out]; exact hbk35 hg (fun k_ e_ => by injection e_ with e_; subst e_; exact ge35_0.1 _ rfl) (Kd.M_row hz_)); have hm_ := Kd.R_mono hz_ hok35; clear HP35 hbk35; have n0_ := Aside0.mk (hp_); have n1_ := Aside0.mk (blk_grown (g := gb405) (o := .cells #[.int .i64 x406000_2, .slice none 0 0] 30 (0, 0)) (by (with_reducible repeat (first | refine blk_drewN ?_ _ | refine blk_drew ?_ | refine blk_alloc ?_ _)); exact BK405.out) hg (Kd.R_ne HL418_0.out BK405.out (by decide))); have n2_ := Aside0.mk ((by rw [hw]; exact below_set (HB.out) GB31.out : Below w.heap.size w w36)); have n3_ := Aside0.mk (hm_); have n4_ := Aside0.mk ((Kd.R_reads' hm_).2.1); clear HO_7; clear BK405; clear HB; clear HL418_0; have HO_7 := n0_; have BK405 := n1_; have HB := n2_; have HL426 := n3_; have HC420 := n4_; clear n0_ n1_ n2_ n3_ n4_; clear hg hw hp_ hz_ hm_ hok35; have p422 : 0 ≤ ((ji28) : Int) := of_decide_eq_true (by first | (with_reducible assumption) | assumption); have q422 : (ji28) < (y421.length : Int) := (by have h_ : ((ji28) : Int) < ((x7_4.length : Int) : Int) := of_decide_eq_true (by first | (with_reducible assumption) | assumption); first | (have e_ := (Kd.S_reads' HO_7.out).1; omega) | simpa only [Ny421.out, List.length_set] using h_); have ql422 : (((ji28) : Int) < ((x7_4.length : Int) : Int)) = True := eq_true (of_decide_eq_true (by first | (with_reducible assumption) | assumption)); obtain ⟨ad422, A422_0, c422_0, e422, hx422_0, hl422_0, hi422_0⟩ := at_L5 (Kd.S_reads' HO_7.out).2.2 (ji28) p422 q422; obtain rfl : ad418 = ad422 := (by injection e422); obtain ⟨ce422, hce422, hMe422, hcc422⟩ := Kd.S_get HO_7.out [] (ji28) p422 (by first | exact q422 | exact of_decide_eq_true (by first | (with_reducible assumption) | assumption) | (have e_ := (Kd.S_reads' HO_7.out).1; omega)); obtain ⟨ve422_0, rfl, ge422_0⟩ := hMe422; have hv422_0 := hcc422 0 _ rfl; rw [Nat.add_zero, show ((Kd.slice 4 Kd.bool)).sz = 1 from rfl, Nat.mul_one] at hv422_0; replace hv422_0 := Option.some.inj (hv422_0.symm.trans hx422_0); rw [hv422_0] at ge422_0; have HL422_0 := Aside0.mk (show Kd.R Kd.bool 4 _ _ _ _ (rd_L5 y421 (ji28)) from ge422_0); clear hv422_0 ge422_0; have HX422_0 := Aside0.mk hx422_0; clear hcc422 hce422; have HR422_0 := Aside0.mk hi422_0; have HC422_0 := Aside0.mk hl422_0; clear hi422_0 hl422_0; replace p422 := eq_true p422; replace q422 := eq_true q422; have p34 : 0 ≤ (x50_3 : Int) := of_decide_eq_true (by first | (with_reducible assumption) | assumption); have q34 : (x50_3 : Int) < (((rd_L5 y421 (ji28)).length : Int) : Int) := of_decide_eq_true (by first | (with_reducible assumption) | assumption); obtain ⟨go34, co34, eo34, gb34, gl34, cl34, HG34⟩ := Kd.R_form HL422_0.out (by omega); (first | cases eo34 | (injection eo34 with ea_ en_ ec_; (first | subst ea_ | (injection ea_ with ea_; subst ea_)); subst ec_; clear en_)); have GB34 := Aside0.mk gb34; have GG34 := Aside0.mk HG34; clear gb34 gl34 HG34; obtain ⟨hx34_0, hf34_0⟩ := Kd.R_celln false HL422_0.out (x50_3 : Int) p34 q34; replace p34 := eq_true p34; replace q34 := eq_true q34; have hq37 : ((ji28) : Int) < (y421.length : Int) := (by have h_ : ((ji28) : Int) < ((x7_4.length : Int) : Int) := of_decide_eq_true (by first | (with_reducible assumption) | assumption); first | exact h_ | (have e_ := (Kd.S_reads' HO_7.out).1; omega) | simpa only [Ny421.out, List.length_set] using h_); obtain ⟨oki37, ce37, hcl37, hM37, hcc37, hok37, hbk37⟩ := Kd.S_borrow HO_7.out [] ((ji28) : Int) (of_decide_eq_true (by first | (with_reducible assumption) | assumption)) (by first | exact hq37 | exact of_decide_eq_true (by first | (with_reducible assumption) | assumption) | (have e_ := (Kd.S_reads' HO_7.out).1; omega)); obtain ⟨ve37_0, rfl, ge37_0⟩ := hM37; have hv37 := hcc37 0 _ rfl; rw [Nat.add_zero, show ((Kd.slice 4 Kd.bool)).sz = 1 from rfl, Nat.mul_one] at hv37; replace hv37 := Option.some.inj (hv37.symm.trans HX422_0.out); subst hv37; clear hcc37 hcl37; replace ge37_0 := (show Kd.R Kd.bool 4 _ _ _ _ (rd_L5 y421 (ji28)) from ge37_0); have HP37 := Kd.R_putg ge37_0 (x50_3 : Int) true) | ((with_reducible refine gate_store (t := 4) (p := 75) rfl ?_); (try (rw [drewN_self w36]; generalize hq_ : World.drewN w36 _ = w36; have n0_ := Aside0.mk (Kd.S_at hq_ HO_7.out); have n1_ := Aside0.mk (Kd.R_at hq_ HL427.out); have n2_ := Aside0.mk (blk_at hq_ BK405.out); have n3_ := Aside0.mk (below_at hq_ HB.out); clear hq_ HO_7 HL427 BK405 HB; have HO_7 := n0_; have HL427 := n1_; have BK405 := n2_; have HB := n3_; clear n0_ n1_ n2_ n3_; (try (have hq37 : ((ji28) : Int) < (y421.length : Int) := (by have h_ : ((ji28) : Int) < ((x7_4.length : Int) : Int) := of_decide_eq_true (by first | (with_reducible assumption) | assumption); first | exact h_ | (have e_ := (Kd.S_reads' HO_7.out).1; omega) | simpa only [Ny421.out, List.length_set] using h_))); (try (obtain ⟨oki37, ce37, hcl37, hM37, hcc37, hok37, hbk37⟩ := Kd.S_borrow HO_7.out [] ((ji28) : Int) (of_decide_eq_true (by first | (with_reducible assumption) | assumption)) hq37)); (try (obtain ⟨ve37_0, rfl, ge37_0⟩ := hM37)); (try (have hv37 := hcc37 0 _ rfl)); (try (rw [Nat.add_zero, show ((Kd.slice 4 Kd.bool)).sz = 1 from rfl, Nat.mul_one] at hv37)); (try (replace hv37 := Option.some.inj (hv37.symm.trans HX422_0.out))); (try (subst hv37)); (try (clear hcc37 hcl37)); (try (replace ge37_0 := (show Kd.R Kd.bool 4 _ _ _ _ (rd_L5 y421 (ji28)) from ge37_0))); (try (have HP37 := Kd.R_putg ge37_0 (x50_3 : Int) true)))); refine store_event (t := 4) (p := 75) (v := ?vo_w38) (w1 := (w36.setCell ⟨go34, (x50_3 : Int).toNat, none⟩ (.bool true))) ?hg ?ho ?hn ?hr ?_; (case ho => rfl); (case hg => rfl); (case hn => rfl); (case hr => first | (go_simp; done) | (go_simp; rfl)); intro w38 hw; have hg : w36.grownBy w38 (some go34) := (by rw [hw]; exact HP37.2); have hz_ : Kd.R Kd.bool 4 w38 w.heap.size oki37 (.slice (some ⟨go34, 0, none⟩) (rd_L5 y421 (ji28)).length c422_0) y423 := (by rw [hw, Ny423.out]; exact HP37.1); have hp_ : Kd.S (Kd.slice 4 Kd.bool) 76 w38 w.heap.size (fun _ => True) (.slice (some ad418) x7_4.length co20) y425 := (by rw [Ny425.out]; exact hbk37 hg (fun k_ e_ => by injection e_ with e_; subst e_; exact ge37_0.1 _ rfl) (Kd.M_row hz_)); have hm_ := Kd.R_mono hz_ hok37; clear HP37 hbk37; have n0_ := Aside0.mk (hp_); have n1_ := Aside0.mk (blk_grown (g := gb405) (o := .cells #[.int .i64 x406000_2, .slice none 0 0] 30 (0, 0)) (by (with_reducible repeat (first | refine blk_drewN ?_ _ | refine blk_drew ?_ | refine blk_alloc ?_ _)); exact BK405.out) hg (Kd.R_ne HL422_0.out BK405.out (by decide))); have n2_ := Aside0.mk ((by rw [hw]; exact below_set (HB.out) GB34.out : Below w.heap.size w w38)); have n3_ := Aside0.mk (hm_); have n4_ := Aside0.mk ((Kd.R_reads' hm_).2.1); clear HO_7; clear BK405; clear HB; clear HL426; clear HL422_0; have HO_7 := n0_; have BK405 := n1_; have HB := n2_; have HL427 := n3_; have HC424 := n4_; clear n0_ n1_ n2_ n3_ n4_; clear hg hw hp_ hz_ hm_ hok37)); try go_wp2_with (first | ((with_reducible refine gate_store (t := 4) (p := 69) rfl ?_); (try (rw [drewN_self wr]; generalize hq_ : World.drewN wr _ = wr; have n0_ := Aside0.mk (Kd.S_at hq_ HO_7.out); have n1_ := Aside0.mk (Kd.R_at hq_ HL426.out); have n2_ := Aside0.mk (blk_at hq_ BK405.out); have n3_ := Aside0.mk (below_at hq_ HB.out); clear hq_ HO_7 HL426 BK405 HB; have HO_7 := n0_; have HL426 := n1_; have BK405 := n2_; have HB := n3_; clear n0_ n1_ n2_ n3_; (try (have hq35 : (x50_3 : Int) < (x7_4.length : Int) := (by have h_ : (x50_3 : Int) < ((x7_4.length : Int) : Int) := of_decide_eq_true (by first | (with_reducible assumption) | assumption); first | exact h_ | (have e_ := (Kd.S_reads' HO_7.out).1; omega) | simpa only [List.length_set, List.length_set] using h_))); (try (obtain ⟨oki35, ce35, hcl35, hM35, hcc35, hok35, hbk35⟩ := Kd.S_borrow HO_7.out [] (x50_3 : Int) (of_decide_eq_true (by first | (with_reducible assumption) | assumption)) hq35)); (try (obtain ⟨ve35_0, rfl, ge35_0⟩ := hM35)); (try (have hv35 := hcc35 0 _ rfl)); (try (rw [Nat.add_zero, show ((Kd.slice 4 Kd.bool)).sz = 1 from rfl, Nat.mul_one] at hv35)); (try (replace hv35 := Option.some.inj (hv35.symm.trans HX418_0.out))); (try (subst hv35)); (try (clear hcc35 hcl35)); (try (replace ge35_0 := (show Kd.R Kd.bool 4 _ _ _ _ (rd_L5 x7_4 x50_3) from ge35_0))); (try (have HP35 := Kd.R_putg ge35_0 ((ji28) : Int) true)))); refine store_event (t := 4) (p := 69) (v := ?vo_w36) (w1 := (wr.setCell ⟨go31, ((ji28) : Int).toNat, none⟩ (.bool true))) ?hg ?ho ?hn ?hr ?_; (case ho => rfl); (case hg => rfl); (case hn => rfl); (case hr => first | (go_simp; done) | (go_simp; rfl)); intro w36 hw; have hg : wr.grownBy w36 (some go31) := (by rw [hw]; exact HP35.2); have hz_ : Kd.R Kd.bool 4 w36 w.heap.size oki35 (.slice (some ⟨go31, 0, none⟩) (rd_L5 x7_4 x50_3).length c418_0) y419 := (by rw [hw, Ny419.out]; exact HP35.1); have hp_ : Kd.S (Kd.slice 4 Kd.bool) 76 w36 w.heap.size (fun _ => True) (.slice (some ad418) x7_4.length co20) y421 := (by rw [Ny421.out]; exact hbk35 hg (fun k_ e_ => by injection e_ with e_; subst e_; exact ge35_0.1 _ rfl) (Kd.M_row hz_)); have hm_ := Kd.R_mono hz_ hok35; clear HP35 hbk35; have n0_ := Aside0.mk (hp_); have n1_ := Aside0.mk (blk_grown (g := gb405) (o := .cells #[.int .i64 x406000_2, .slice none 0 0] 30 (0, 0)) (by (with_reducible repeat (first | refine blk_drewN ?_ _ | refine blk_drew ?_ | refine blk_alloc ?_ _)); exact BK405.out) hg (Kd.R_ne HL418_0.out BK405.out (by decide))); have n2_ := Aside0.mk ((by rw [hw]; exact below_set (HB.out) GB31.out : Below w.heap.size w w36)); have n3_ := Aside0.mk (hm_); have n4_ := Aside0.mk ((Kd.R_reads' hm_).2.1); clear HO_7; clear BK405; clear HB; clear HL418_0; have HO_7 := n0_; have BK405 := n1_; have HB := n2_; have HL426 := n3_; have HC420 := n4_; clear n0_ n1_ n2_ n3_ n4_; clear hg hw hp_ hz_ hm_ hok35; have p422 : 0 ≤ ((ji28) : Int) := of_decide_eq_true (by first | (with_reducible assumption) | assumption); have q422 : (ji28) < (y421.length : Int) := (by have h_ : ((ji28) : Int) < ((x7_4.length : Int) : Int) := of_decide_eq_true (by first | (with_reducible assumption) | assumption); first | (have e_ := (Kd.S_reads' HO_7.out).1; omega) | simpa only [Ny421.out, List.length_set] using h_); have ql422 : (((ji28) : Int) < ((x7_4.length : Int) : Int)) = True := eq_true (of_decide_eq_true (by first | (with_reducible assumption) | assumption)); obtain ⟨ad422, A422_0, c422_0, e422, hx422_0, hl422_0, hi422_0⟩ := at_L5 (Kd.S_reads' HO_7.out).2.2 (ji28) p422 q422; obtain rfl : ad418 = ad422 := (by injection e422); obtain ⟨ce422, hce422, hMe422, hcc422⟩ := Kd.S_get HO_7.out [] (ji28) p422 (by first | exact q422 | exact of_decide_eq_true (by first | (with_reducible assumption) | assumption) | (have e_ := (Kd.S_reads' HO_7.out).1; omega)); obtain ⟨ve422_0, rfl, ge422_0⟩ := hMe422; have hv422_0 := hcc422 0 _ rfl; rw [Nat.add_zero, show ((Kd.slice 4 Kd.bool)).sz = 1 from rfl, Nat.mul_one] at hv422_0; replace hv422_0 := Option.some.inj (hv422_0.symm.trans hx422_0); rw [hv422_0] at ge422_0; have HL422_0 := Aside0.mk (show Kd.R Kd.bool 4 _ _ _ _ (rd_L5 y421 (ji28)) from ge422_0); clear hv422_0 ge422_0; have HX422_0 := Aside0.mk hx422_0; clear hcc422 hce422; have HR422_0 := Aside0.mk hi422_0; have HC422_0 := Aside0.mk hl422_0; clear hi422_0 hl422_0; replace p422 := eq_true p422; replace q422 := eq_true q422; have p34 : 0 ≤ (x50_3 : Int) := of_decide_eq_true (by first | (with_reducible assumption) | assumption); have q34 : (x50_3 : Int) < (((rd_L5 y421 (ji28)).length : Int) : Int) := of_decide_eq_true (by first | (with_reducible assumption) | assumption); obtain ⟨go34, co34, eo34, gb34, gl34, cl34, HG34⟩ := Kd.R_form HL422_0.out (by omega); (first | cases eo34 | (injection eo34 with ea_ en_ ec_; (first | subst ea_ | (injection ea_ with ea_; subst ea_)); subst ec_; clear en_)); have GB34 := Aside0.mk gb34; have GG34 := Aside0.mk HG34; clear gb34 gl34 HG34; obtain ⟨hx34_0, hf34_0⟩ := Kd.R_celln false HL422_0.out (x50_3 : Int) p34 q34; replace p34 := eq_true p34; replace q34 := eq_true q34; have hq37 : ((ji28) : Int) < (y421.length : Int) := (by have h_ : ((ji28) : Int) < ((x7_4.length : Int) : Int) := of_decide_eq_true (by first | (with_reducible assumption) | assumption); first | exact h_ | (have e_ := (Kd.S_reads' HO_7.out).1; omega) | simpa only [Ny421.out, List.length_set] using h_); obtain ⟨oki37, ce37, hcl37, hM37, hcc37, hok37, hbk37⟩ := Kd.S_borrow HO_7.out [] ((ji28) : Int) (of_decide_eq_true (by first | (with_reducible assumption) | assumption)) (by first | exact hq37 | exact of_decide_eq_true (by first | (with_reducible assumption) | assumption) | (have e_ := (Kd.S_reads' HO_7.out).1; omega)); obtain ⟨ve37_0, rfl, ge37_0⟩ := hM37; have hv37 := hcc37 0 _ rfl; rw [Nat.add_zero, show ((Kd.slice 4 Kd.bool)).sz = 1 from rfl, Nat.mul_one] at hv37; replace hv37 := Option.some.inj (hv37.symm.trans HX422_0.out); subst hv37; clear hcc37 hcl37; replace ge37_0 := (show Kd.R Kd.bool 4 _ _ _ _ (rd_L5 y421 (ji28)) from ge37_0); have HP37 := Kd.R_putg ge37_0 (x50_3 : Int) true) | ((with_reducible refine gate_store (t := 4) (p := 75) rfl ?_); (try (rw [drewN_self w36]; generalize hq_ : World.drewN w36 _ = w36; have n0_ := Aside0.mk (Kd.S_at hq_ HO_7.out); have n1_ := Aside0.mk (Kd.R_at hq_ HL427.out); have n2_ := Aside0.mk (blk_at hq_ BK405.out); have n3_ := Aside0.mk (below_at hq_ HB.out); clear hq_ HO_7 HL427 BK405 HB; have HO_7 := n0_; have HL427 := n1_; have BK405 := n2_; have HB := n3_; clear n0_ n1_ n2_ n3_; (try (have hq37 : ((ji28) : Int) < (y421.length : Int) := (by have h_ : ((ji28) : Int) < ((x7_4.length : Int) : Int) := of_decide_eq_true (by first | (with_reducible assumption) | assumption); first | exact h_ | (have e_ := (Kd.S_reads' HO_7.out).1; omega) | simpa only [Ny421.out, List.length_set] using h_))); (try (obtain ⟨oki37, ce37, hcl37, hM37, hcc37, hok37, hbk37⟩ := Kd.S_borrow HO_7.out [] ((ji28) : Int) (of_decide_eq_true (by first | (with_reducible assumption) | assumption)) hq37)); (try (obtain ⟨ve37_0, rfl, ge37_0⟩ := hM37)); (try (have hv37 := hcc37 0 _ rfl)); (try (rw [Nat.add_zero, show ((Kd.slice 4 Kd.bool)).sz = 1 from rfl, Nat.mul_one] at hv37)); (try (replace hv37 := Option.some.inj (hv37.symm.trans HX422_0.out))); (try (subst hv37)); (try (clear hcc37 hcl37)); (try (replace ge37_0 := (show Kd.R Kd.bool 4 _ _ _ _ (rd_L5 y421 (ji28)) from ge37_0))); (try (have HP37 := Kd.R_putg ge37_0 (x50_3 : Int) true)))); refine store_event (t := 4) (p := 75) (v := ?vo_w38) (w1 := (w36.setCell ⟨go34, (x50_3 : Int).toNat, none⟩ (.bool true))) ?hg ?ho ?hn ?hr ?_; (case ho => rfl); (case hg => rfl); (case hn => rfl); (case hr => first | (go_simp; done) | (go_simp; rfl)); intro w38 hw; have hg : w36.grownBy w38 (some go34) := (by rw [hw]; exact HP37.2); have hz_ : Kd.R Kd.bool 4 w38 w.heap.size oki37 (.slice (some ⟨go34, 0, none⟩) (rd_L5 y421 (ji28)).length c422_0) y423 := (by rw [hw, Ny423.out]; exact HP37.1); have hp_ : Kd.S (Kd.slice 4 Kd.bool) 76 w38 w.heap.size (fun _ => True) (.slice (some ad418) x7_4.length co20) y425 := (by rw [Ny425.out]; exact hbk37 hg (fun k_ e_ => by injection e_ with e_; subst e_; exact ge37_0.1 _ rfl) (Kd.M_row hz_)); have hm_ := Kd.R_mono hz_ hok37; clear HP37 hbk37; have n0_ := Aside0.mk (hp_); have n1_ := Aside0.mk (blk_grown (g := gb405) (o := .cells #[.int .i64 x406000_2, .slice none 0 0] 30 (0, 0)) (by (with_reducible repeat (first | refine blk_drewN ?_ _ | refine blk_drew ?_ | refine blk_alloc ?_ _)); exact BK405.out) hg (Kd.R_ne HL422_0.out BK405.out (by decide))); have n2_ := Aside0.mk ((by rw [hw]; exact below_set (HB.out) GB34.out : Below w.heap.size w w38)); have n3_ := Aside0.mk (hm_); have n4_ := Aside0.mk ((Kd.R_reads' hm_).2.1); clear HO_7; clear BK405; clear HB; clear HL426; clear HL422_0; have HO_7 := n0_; have BK405 := n1_; have HB := n2_; have HL427 := n3_; have HC424 := n4_; clear n0_ n1_ n2_ n3_ n4_; clear hg hw hp_ hz_ hm_ hok37)))
                                            (try simp only [← hl7_4])
                                            go_roundg k4
                                            case measure => have := HJ2.out; have := HK2.out; have := HK3.out; have := HK4.out; omega
                                            case rel => exact ⟨(y425), (wrap64 (x55_4 + 1)), (by first | rfl | (simp; done) | (simp [*]; done)), H', ⟨by have := HJ2.out; have := HK2.out; have := HK3.out; have := HK4.out; omega⟩, ⟨by (try simp only [hl7_3]); (try simp only [hl7_4]); (with_reducible repeat (first | apply Kd.S_alloc | apply Kd.S_drewN | apply Kd.S_drew)); exact HO_7.out⟩, ⟨by (try simp only [hl7_3]); (try simp only [hl7_4]); (with_reducible repeat (first | refine blk_drewN ?_ _ | refine blk_drew ?_ | refine blk_alloc ?_ _)); exact BK405.out⟩, ⟨by repeat (first | (with_reducible first | exact HB.out | apply below_alloc | apply pw_below_drewN | apply below_drew1 | refine below_set ?_ GE405.out) | exact HB.out)⟩⟩
                                          · rw [if_neg c33] at H
                                            exact absurd H (by simp)
                                        · rw [if_neg c32] at H
                                          exact absurd H (by simp)
                                      · rw [if_neg c30] at H
                                        exact absurd H (by simp)
                                    · rw [if_neg c29] at H
                                      exact absurd H (by simp)
                                  · rw [if_neg c27] at H
                                    exact absurd H (by simp)
                                · rw [if_neg c26] at H
                                  exact absurd H (by simp)
                            · rw [if_neg c24] at H
                              exact absurd H (by simp)
                          · rw [if_neg c23] at H
                            exact absurd H (by simp)
                        · rw [if_neg c22] at H
                          have c22b0 : decide (x55_4 < (l1.length : Int)) = false := decide_eq_false c22
                          (try (have c22b0_0 := c22b0; simp only [hl7_3] at c22b0_0)); (try (have c22b0_1 := c22b0; simp only [hl7_4] at c22b0_1))
                          clear c22
                          have H' := Aside0.mk H
                          clear H
                          go_wp2
                          repeat (go_quiet (fail); try go_wp2)
                          (try simp only [← hl7_3, ← hl7_4])
                          go_roundg k4
                          case measure => have := HJ2.out; have := HK2.out; have := HK3.out; have := HK4.out; omega
                          case rel => exact ⟨(x7_4), (wrap64 (x50_3 + 1)), (by first | rfl | (simp; done) | (simp [*]; done)), H', ⟨by have := HJ2.out; have := HK2.out; have := HK3.out; have := HK4.out; omega⟩, ⟨by (try simp only [hl7_3]); (try simp only [hl7_4]); (with_reducible repeat (first | apply Kd.S_alloc | apply Kd.S_drewN | apply Kd.S_drew)); exact HO_7.out⟩, ⟨by (try simp only [hl7_3]); (try simp only [hl7_4]); (with_reducible repeat (first | refine blk_drewN ?_ _ | refine blk_drew ?_ | refine blk_alloc ?_ _)); exact BK405.out⟩, ⟨by repeat (first | (with_reducible first | exact HB.out | apply below_alloc | apply pw_below_drewN | apply below_drew1 | refine below_set ?_ GE405.out) | exact HB.out)⟩⟩
                  · rw [if_neg c21] at H
                    have c21b0 : decide (x50_3 < (t410.length : Int)) = false := decide_eq_false c21
                    (try (have c21b0_0 := c21b0; simp only [hl7_3] at c21b0_0))
                    clear c21
                    replace H := Option.bind_eq_some_iff.mp H
                    obtain ⟨⟨t413, t414⟩, A390, H⟩ := H
                    replace H : (some (t413, t414, true)) = some (r1, r2, r3) := H
                    have A39 := Aside0.mk A390
                    clear A390
                    simp only [Option.some.injEq, Prod.mk.injEq] at H
                    obtain ⟨rfl, rfl, rfl⟩ := H
                    go_wp2_with (first | (go_at_call 59; (with_reducible refine (spec_paOf.calls k3 _ _ x7_3 t413 t414 _ ?side1 ?side2 A39.out).mono ?_); (case side1 => repeat (first | exact (Kd.S_reads' HO_7.out).2.2 | (with_reducible refine Kd.C_alloc ?_ _) | (with_reducible refine Kd.C_drewN ?_ _) | (with_reducible refine Kd.C_drew ?_))); (case side2 => exact (Kd.S_reads' HO_7.out).2.1); rintro e w40 ⟨v415, rfl, ho0, hb⟩; have n0_ := Aside0.mk (Kd.S_below (by (with_reducible repeat (first | apply Kd.S_alloc | apply Kd.S_drewN | apply Kd.S_drew)); exact HO_7.out) hb); have n1_ := Aside0.mk (Kd.R_lower ho0 (below_size (by repeat (first | (with_reducible first | exact HB.out | apply below_alloc | apply pw_below_drewN | apply below_drew1 | refine below_set ?_ GE405.out) | exact HB.out)))); have n2_ := Aside0.mk (blk_below (g := gb405) (o := .cells #[.int .i64 x406000_2, .slice none 0 0] 30 (0, 0)) (by (with_reducible repeat (first | refine blk_drewN ?_ _ | refine blk_drew ?_ | refine blk_alloc ?_ _)); exact BK405.out) hb); have n3_ := Aside0.mk (below_step (by repeat (first | (with_reducible first | exact HB.out | apply below_alloc | apply pw_below_drewN | apply below_drew1 | refine below_set ?_ GE405.out) | exact HB.out)) hb); clear HO_7; clear BK405; clear HB; have HO_7 := n0_; have HO416 := n1_; have BK405 := n2_; have HB := n3_; clear n0_ n1_ n2_ n3_; (try clear hb); (try clear hb2); (try clear hk); (try clear hi); (try clear ho0); have hcz41_0 : w40.cell? ⟨gb405, 0, none⟩ = some (.int .i64 x406000_2) := (blk_cell BK405.out 0).trans rfl; have hcz41_1 : w40.cell? ⟨gb405, 1, none⟩ = some (.slice none 0 0) := (blk_cell BK405.out 1).trans rfl; have hfz41_0 := blk_frozen BK405.out 0; have hfz41_1 := blk_frozen BK405.out 1; obtain ⟨Ao42, co42, eo42⟩ := Kd.R_slice HO416.out; subst eo42))
                    repeat (go_quiet (first | (go_at_call 59; (with_reducible refine (spec_paOf.calls k3 _ _ x7_3 t413 t414 _ ?side1 ?side2 A39.out).mono ?_); (case side1 => repeat (first | exact (Kd.S_reads' HO_7.out).2.2 | (with_reducible refine Kd.C_alloc ?_ _) | (with_reducible refine Kd.C_drewN ?_ _) | (with_reducible refine Kd.C_drew ?_))); (case side2 => exact (Kd.S_reads' HO_7.out).2.1); rintro e w40 ⟨v415, rfl, ho0, hb⟩; have n0_ := Aside0.mk (Kd.S_below (by (with_reducible repeat (first | apply Kd.S_alloc | apply Kd.S_drewN | apply Kd.S_drew)); exact HO_7.out) hb); have n1_ := Aside0.mk (Kd.R_lower ho0 (below_size (by repeat (first | (with_reducible first | exact HB.out | apply below_alloc | apply pw_below_drewN | apply below_drew1 | refine below_set ?_ GE405.out) | exact HB.out)))); have n2_ := Aside0.mk (blk_below (g := gb405) (o := .cells #[.int .i64 x406000_2, .slice none 0 0] 30 (0, 0)) (by (with_reducible repeat (first | refine blk_drewN ?_ _ | refine blk_drew ?_ | refine blk_alloc ?_ _)); exact BK405.out) hb); have n3_ := Aside0.mk (below_step (by repeat (first | (with_reducible first | exact HB.out | apply below_alloc | apply pw_below_drewN | apply below_drew1 | refine below_set ?_ GE405.out) | exact HB.out)) hb); clear HO_7; clear BK405; clear HB; have HO_7 := n0_; have HO416 := n1_; have BK405 := n2_; have HB := n3_; clear n0_ n1_ n2_ n3_; (try clear hb); (try clear hb2); (try clear hk); (try clear hi); (try clear ho0); have hcz41_0 : w40.cell? ⟨gb405, 0, none⟩ = some (.int .i64 x406000_2) := (blk_cell BK405.out 0).trans rfl; have hcz41_1 : w40.cell? ⟨gb405, 1, none⟩ = some (.slice none 0 0) := (blk_cell BK405.out 1).trans rfl; have hfz41_0 := blk_frozen BK405.out 0; have hfz41_1 := blk_frozen BK405.out 1; obtain ⟨Ao42, co42, eo42⟩ := Kd.R_slice HO416.out; subst eo42)); try go_wp2_with (first | (go_at_call 59; (with_reducible refine (spec_paOf.calls k3 _ _ x7_3 t413 t414 _ ?side1 ?side2 A39.out).mono ?_); (case side1 => repeat (first | exact (Kd.S_reads' HO_7.out).2.2 | (with_reducible refine Kd.C_alloc ?_ _) | (with_reducible refine Kd.C_drewN ?_ _) | (with_reducible refine Kd.C_drew ?_))); (case side2 => exact (Kd.S_reads' HO_7.out).2.1); rintro e w40 ⟨v415, rfl, ho0, hb⟩; have n0_ := Aside0.mk (Kd.S_below (by (with_reducible repeat (first | apply Kd.S_alloc | apply Kd.S_drewN | apply Kd.S_drew)); exact HO_7.out) hb); have n1_ := Aside0.mk (Kd.R_lower ho0 (below_size (by repeat (first | (with_reducible first | exact HB.out | apply below_alloc | apply pw_below_drewN | apply below_drew1 | refine below_set ?_ GE405.out) | exact HB.out)))); have n2_ := Aside0.mk (blk_below (g := gb405) (o := .cells #[.int .i64 x406000_2, .slice none 0 0] 30 (0, 0)) (by (with_reducible repeat (first | refine blk_drewN ?_ _ | refine blk_drew ?_ | refine blk_alloc ?_ _)); exact BK405.out) hb); have n3_ := Aside0.mk (below_step (by repeat (first | (with_reducible first | exact HB.out | apply below_alloc | apply pw_below_drewN | apply below_drew1 | refine below_set ?_ GE405.out) | exact HB.out)) hb); clear HO_7; clear BK405; clear HB; have HO_7 := n0_; have HO416 := n1_; have BK405 := n2_; have HB := n3_; clear n0_ n1_ n2_ n3_; (try clear hb); (try clear hb2); (try clear hk); (try clear hi); (try clear ho0); have hcz41_0 : w40.cell? ⟨gb405, 0, none⟩ = some (.int .i64 x406000_2) := (blk_cell BK405.out 0).trans rfl; have hcz41_1 : w40.cell? ⟨gb405, 1, none⟩ = some (.slice none 0 0) := (blk_cell BK405.out 1).trans rfl; have hfz41_0 := blk_frozen BK405.out 0; have hfz41_1 := blk_frozen BK405.out 1; obtain ⟨Ao42, co42, eo42⟩ := Kd.R_slice HO416.out; subst eo42)))
                    refine bodyPost_ret (results_ct rfl _ _ gb405 30 #[.int .i64 t413, .slice Ao42 t414.length co42] (0, 0) _ rfl (by (with_reducible repeat (first | refine blk_drewN ?_ _ | refine blk_drew ?_ | refine blk_alloc ?_ _)); refine blk_put (cs := #[.int .i64 t413, .slice none 0 0]) ?_ 1 _ rfl; (with_reducible repeat (first | refine blk_drewN ?_ _ | refine blk_drew ?_ | refine blk_alloc ?_ _)); refine blk_put (cs := #[.int .i64 x406000_2, .slice none 0 0]) ?_ 0 _ rfl; (with_reducible repeat (first | refine blk_drewN ?_ _ | refine blk_drew ?_ | refine blk_alloc ?_ _)); exact BK405.out) Try.underlying30 rfl (by kernel_rfl)) rfl ?_
                    exact ⟨_, by first | rfl | (simp [errW_none, errW_some] <;> rfl) | (simp [*, errW_none, errW_some] <;> rfl), by (with_reducible repeat (first | apply Kd.R_alloc | apply Kd.R_drewN | apply Kd.R_drew)); exact Kd.R_mono (Kd.R_far (p := ⟨gb405, 1, none⟩) (Kd.R_far (p := ⟨gb405, 0, none⟩) (Kd.R_types HO416.out BK405.out (by decide)) (fun _ hk => hk.2) (.int .i64 t413)) (fun _ hk => hk.2) (.slice Ao42 t414.length co42)) (fun _ hk => trivial), by repeat (first | (with_reducible first | exact HB.out | apply below_alloc | apply pw_below_drewN | apply below_drew1 | refine below_set ?_ GE405.out) | exact HB.out)⟩

end Go.Proofs.Ytipblaifgpnebaa.Q
