-- Written by wip/tools/gprint.py (the kit's print, with contracts of this session): Lean checks it.
import Derived.Test.YtipblaifgpnebaaQ0
import Derived.Test.YtipblaifgpnebaaQ23
import Derived.Test.YtipblaifgpnebaaQ64
import Derived.Test.YtipblaifgpnebaaQ66
namespace Go.Proofs.Ytipblaifgpnebaa.Q
open Go.RowKit Go.Proofs.YtipblaifgpnebaaW.PrintWords Go.Proofs.YtipblaifgpnebaaW.PrintLast Go.Proofs.YtipblaifgpnebaaW.PrintMore
attribute [local go_sem] max2_int min2_int max_two min_two max_three min_three max_four min_four   -- for this text's walks alone
set_option linter.unusedVariables false
set_option linter.unusedSimpArgs false

/-! ### impl_LinesOf: function 39 -/
mutual
def impl_LinesOf.j0 : Nat → Bool → Int → List (S63) → Option (Int × (List (S63)) × Bool)
 | 0, _, _, _ => none
 | k + 1, x17, x670000, x670001 => if x17 = true then (some (0, ([] : List (S63)), false)) else (if 0 ≤ (x670001.length : Int) then (if ((x670001.length : Int) : Int).toNat ≤ 140737488355328 then (impl_LinesOf.l0 k (List.replicate ((x670001.length : Int) : Int).toNat 0) x670001 (x670001.length : Int) 0 x670000 x670001) else (none)) else (none))
def impl_LinesOf.l0 : Nat → List Int → List (S63) → Int → Int → Int → List (S63) → Option (Int × (List (S63)) × Bool)
 | 0, _, _, _, _, _, _ => none
 | k + 1, x4, x24, x25, x26, x670000, x670001 => if x26 < x25 then (if 0 ≤ x26 then (if x26 < (x24.length : Int) then (if x26 ≤ (x670001.length : Int) then ((some (x670001.take (x26 : Int).toNat : List (S63))).bind fun y681 => (impl_LinesOf.l1 k x4 x26 x24 x25 x26 y681 (y681.length : Int) 0 x670000 x670001 ((rd_T63 x24 x26).f0) ((rd_T63 x24 x26).f1))) else (none)) else (none)) else (none)) else ((impl_table_party.f k x4).bind fun bt675 => (some (bt675.1, bt675.2, true)))
def impl_LinesOf.l1 : Nat → List Int → Int → List (S63) → Int → Int → List (S63) → Int → Int → Int → List (S63) → Int → Int → Option (Int × (List (S63)) × Bool)
 | 0, _, _, _, _, _, _, _, _, _, _, _, _ => none
 | k + 1, x4, x5, x24, x25, x26, x34, x35, x36, x670000, x670001, x681000, x681001 => if x36 < x35 then (if 0 ≤ x36 then (if x36 < (x34.length : Int) then (if x681000 = ((rd_T63 x34 x36).f0) then ((impl_table_put.f x4 x5 x36).bind fun t687 => (impl_LinesOf.l1 k t687 x5 x24 x25 x26 x34 x35 (wrap64 (x36 + 1)) x670000 x670001 x681000 x681001)) else (if x681000 = ((rd_T63 x34 x36).f1) then ((impl_table_put.f x4 x5 x36).bind fun t688 => (impl_LinesOf.l1 k t688 x5 x24 x25 x26 x34 x35 (wrap64 (x36 + 1)) x670000 x670001 x681000 x681001)) else (if x681001 = ((rd_T63 x34 x36).f0) then ((impl_table_put.f x4 x5 x36).bind fun t689 => (impl_LinesOf.l1 k t689 x5 x24 x25 x26 x34 x35 (wrap64 (x36 + 1)) x670000 x670001 x681000 x681001)) else (if x681001 = ((rd_T63 x34 x36).f1) then ((impl_table_put.f x4 x5 x36).bind fun t690 => (impl_LinesOf.l1 k t690 x5 x24 x25 x26 x34 x35 (wrap64 (x36 + 1)) x670000 x670001 x681000 x681001)) else (impl_LinesOf.l1 k x4 x5 x24 x25 x26 x34 x35 (wrap64 (x36 + 1)) x670000 x670001 x681000 x681001))))) else (none)) else (none)) else (impl_LinesOf.l0 k x4 x24 x25 (wrap64 (x26 + 1)) x670000 x670001)
end
def impl_LinesOf.f (k : Nat) (a0_0 : Int) (l0_1 : List (S63)) : Option (Int × (List (S63)) × Bool) := (impl_IsParty.f k a0_0 l0_1).bind fun t671 => (if t671 = true then (impl_LinesOf.j0 k (decide ((l0_1.length : Int) > 12)) a0_0 l0_1) else (impl_LinesOf.j0 k true a0_0 l0_1))
theorem impl_LinesOf.mono_l : ∀ k, (∀ y0 y1 y2, LeO (impl_LinesOf.j0 k y0 y1 y2) (impl_LinesOf.j0 (k + 1) y0 y1 y2)) ∧ (∀ y0 y1 y2 y3 y4 y5, LeO (impl_LinesOf.l0 k y0 y1 y2 y3 y4 y5) (impl_LinesOf.l0 (k + 1) y0 y1 y2 y3 y4 y5)) ∧ (∀ y0 y1 y2 y3 y4 y5 y6 y7 y8 y9 y10 y11, LeO (impl_LinesOf.l1 k y0 y1 y2 y3 y4 y5 y6 y7 y8 y9 y10 y11) (impl_LinesOf.l1 (k + 1) y0 y1 y2 y3 y4 y5 y6 y7 y8 y9 y10 y11))
 | 0 => ⟨fun _ _ _ r h => by simp [impl_LinesOf.j0] at h, fun _ _ _ _ _ _ r h => by simp [impl_LinesOf.l0] at h, fun _ _ _ _ _ _ _ _ _ _ _ _ r h => by simp [impl_LinesOf.l1] at h⟩
 | k + 1 => by
  obtain ⟨ih0, ih1, ih2⟩ := impl_LinesOf.mono_l k
  refine ⟨?_, ?_, ?_⟩
  ·intro y0 y1 y2
   unfold impl_LinesOf.j0
   repeat' first
   | (with_reducible exact ih0 _ _ _)
   | (with_reducible exact ih1 _ _ _ _ _ _)
   | (with_reducible exact ih2 _ _ _ _ _ _ _ _ _ _ _ _)
   | (with_reducible exact impl_IsParty.mono _ _ _)
   | (with_reducible exact impl_table_party.mono _ _)
   | (with_reducible exact LeO.refl _)
   | (with_reducible exact LeO.none _)
   | (with_reducible refine LeO.ite ?_ ?_)
   | (with_reducible refine LeO.bind ?_ (fun _ => ?_))
   | exact ih0 _ _ _
   | exact ih1 _ _ _ _ _ _
   | exact ih2 _ _ _ _ _ _ _ _ _ _ _ _
   | exact impl_IsParty.mono _ _ _
   | exact impl_table_party.mono _ _
   | exact LeO.none _
   | refine LeO.ite ?_ ?_
   | refine LeO.bind ?_ (fun _ => ?_)
  ·intro y0 y1 y2 y3 y4 y5
   unfold impl_LinesOf.l0
   repeat' first
   | (with_reducible exact ih0 _ _ _)
   | (with_reducible exact ih1 _ _ _ _ _ _)
   | (with_reducible exact ih2 _ _ _ _ _ _ _ _ _ _ _ _)
   | (with_reducible exact impl_IsParty.mono _ _ _)
   | (with_reducible exact impl_table_party.mono _ _)
   | (with_reducible exact LeO.refl _)
   | (with_reducible exact LeO.none _)
   | (with_reducible refine LeO.ite ?_ ?_)
   | (with_reducible refine LeO.bind ?_ (fun _ => ?_))
   | exact ih0 _ _ _
   | exact ih1 _ _ _ _ _ _
   | exact ih2 _ _ _ _ _ _ _ _ _ _ _ _
   | exact impl_IsParty.mono _ _ _
   | exact impl_table_party.mono _ _
   | exact LeO.none _
   | refine LeO.ite ?_ ?_
   | refine LeO.bind ?_ (fun _ => ?_)
  ·intro y0 y1 y2 y3 y4 y5 y6 y7 y8 y9 y10 y11
   unfold impl_LinesOf.l1
   repeat' first
   | (with_reducible exact ih0 _ _ _)
   | (with_reducible exact ih1 _ _ _ _ _ _)
   | (with_reducible exact ih2 _ _ _ _ _ _ _ _ _ _ _ _)
   | (with_reducible exact impl_IsParty.mono _ _ _)
   | (with_reducible exact impl_table_party.mono _ _)
   | (with_reducible exact LeO.refl _)
   | (with_reducible exact LeO.none _)
   | (with_reducible refine LeO.ite ?_ ?_)
   | (with_reducible refine LeO.bind ?_ (fun _ => ?_))
   | exact ih0 _ _ _
   | exact ih1 _ _ _ _ _ _
   | exact ih2 _ _ _ _ _ _ _ _ _ _ _ _
   | exact impl_IsParty.mono _ _ _
   | exact impl_table_party.mono _ _
   | exact LeO.none _
   | refine LeO.ite ?_ ?_
   | refine LeO.bind ?_ (fun _ => ?_)
theorem impl_LinesOf.mono : ∀ a0 a1 k, LeO (impl_LinesOf.f k a0 a1) (impl_LinesOf.f (k + 1) a0 a1) := by
 intro a0 a1 k
 obtain ⟨ih0, ih1, ih2⟩ := impl_LinesOf.mono_l k
 unfold impl_LinesOf.f
 repeat' first
   | (with_reducible exact ih0 _ _ _)
   | (with_reducible exact ih1 _ _ _ _ _ _)
   | (with_reducible exact ih2 _ _ _ _ _ _ _ _ _ _ _ _)
   | (with_reducible exact impl_IsParty.mono _ _ _)
   | (with_reducible exact impl_table_party.mono _ _)
   | (with_reducible exact LeO.refl _)
   | (with_reducible exact LeO.none _)
   | (with_reducible refine LeO.ite ?_ ?_)
   | (with_reducible refine LeO.bind ?_ (fun _ => ?_))
   | exact ih0 _ _ _
   | exact ih1 _ _ _ _ _ _
   | exact ih2 _ _ _ _ _ _ _ _ _ _ _ _
   | exact impl_IsParty.mono _ _ _
   | exact impl_table_party.mono _ _
   | exact LeO.none _
   | refine LeO.ite ?_ ?_
   | refine LeO.bind ?_ (fun _ => ?_)
set_option maxHeartbeats 8000000 in
set_option maxRecDepth 100000 in
theorem impl_LinesOf.calls (k : Nat) (a0_0 : Int) (A0_1 : Option Addr) (c0_1 : Nat) (l0_1 : List (S63)) (r1 : Int) (r2 : List (S63)) (r3 : Bool) (w : World) (hr0_1 : Kd.C k63 w A0_1 l0_1.length l0_1) (hc0_1 : l0_1.length ≤ c0_1) (h : impl_LinesOf.f k a0_0 l0_1 = some (r1, r2, r3)) :
  Calls Try.prog 39 #[.agg #[.int .i64 a0_0, .slice A0_1 l0_1.length c0_1]] w fun e w' => ∃ v1_ : Value, e = .returned (.tuple #[.agg #[.int .i64 r1, v1_], .bool r3]) ∧ Kd.R k63 63 w' w.heap.size (fun _ => True) v1_ r2 ∧ Below w.heap.size w w' := by
 have hu30 := Try.underlying30
 have hu63 := Try.underlying63
 have HR0_1 := Aside0.mk hr0_1
 have HC0_1 := Aside0.mk hc0_1
 clear hr0_1 hc0_1
 have HB := Aside0.mk (Below.refl w.heap.size w)
 have H : ((impl_IsParty.f k a0_0 l0_1).bind fun t671 => (if t671 = true then (impl_LinesOf.j0 k (decide ((l0_1.length : Int) > 12)) a0_0 l0_1) else (impl_LinesOf.j0 k true a0_0 l0_1))) = some (r1, r2, r3) := h
 clear h
 have HC2 := Aside0.mk H
 clear H
 go_enter Try.func39, Try.ntmps39
 go_upto_region 1 with (first | ((with_reducible refine gate_dst (N := 1) rfl ?_); (try (refine gate_guard (by rfl) ?_; dsimp only)); refine box_event ?hg (N := 1) ?hd (cs := #[.int .i64 a0_0, .slice A0_1 l0_1.length c0_1]) (t := 30) ?hr ?_; (case hd => rfl); (case hg => rfl); (case hr => first | (go_simp; done) | (go_simp; rfl)); intro gb669 hg w3 hbox hb; have n0_ := Aside0.mk (below_step (by repeat (first | (with_reducible first | exact HB.out | apply below_alloc | apply pw_below_drewN | apply below_drew1) | exact HB.out)) hb); have n1_ := Aside0.mk (hbox); have n2_ := Aside0.mk ((by rw [hg]; exact (below_size (by repeat (first | (with_reducible first | exact HB.out | apply below_alloc | apply pw_below_drewN | apply below_drew1) | exact HB.out))) : w.heap.size ≤ gb669)); have n3_ := n2_; clear HB; have HB := n0_; have BK669 := n1_; have GW669 := n2_; have GE669 := n3_; clear n0_ n1_ n2_ n3_; clear hb hbox hg) | ((with_reducible refine gate_dst (N := 2) rfl ?_); (try (refine gate_guard (by rfl) ?_; dsimp only)); refine box_event ?hg (N := 2) ?hd (cs := #[.int .i64 0, .slice none 0 0]) (t := 30) ?hr ?_; (case hd => rfl); (case hg => rfl); (case hr => first | (go_simp; done) | (go_simp; rfl)); intro gb670 hg w4 hbox hb; have n0_ := Aside0.mk (blk_below (g := gb669) (o := .cells #[.int .i64 a0_0, .slice A0_1 l0_1.length c0_1] 30 (0, 0)) (by (with_reducible repeat (first | refine blk_drewN ?_ _ | refine blk_drew ?_ | refine blk_alloc ?_ _)); exact BK669.out) hb); have n1_ := Aside0.mk (below_step (by repeat (first | (with_reducible first | exact HB.out | apply below_alloc | apply pw_below_drewN | apply below_drew1 | refine below_set ?_ GE669.out) | exact HB.out)) hb); have n2_ := Aside0.mk (hbox); have n3_ := Aside0.mk ((by rw [hg]; exact (below_size (by repeat (first | (with_reducible first | exact HB.out | apply below_alloc | apply pw_below_drewN | apply below_drew1 | refine below_set ?_ GE669.out) | exact HB.out))) : w.heap.size ≤ gb670)); have n4_ := n3_; have n5_ := Aside0.mk ((by rw [hg]; exact Nat.ne_of_lt (blk_lt (g := gb669) (o := .cells #[.int .i64 a0_0, .slice A0_1 l0_1.length c0_1] 30 (0, 0)) (by (with_reducible repeat (first | refine blk_drewN ?_ _ | refine blk_drew ?_ | refine blk_alloc ?_ _)); exact BK669.out)) : gb669 ≠ gb670)); have n6_ := Aside0.mk n5_.out.symm; clear BK669; clear HB; have BK669 := n0_; have HB := n1_; have BK670 := n2_; have GW670 := n3_; have GE670 := n4_; have NB669_670 := n5_; have NB670_669 := n6_; clear n0_ n1_ n2_ n3_ n4_ n5_ n6_; clear hb hbox hg))
 (try simp only [Act.put, List.setIfInBounds_toArray, List.set_cons_zero, List.set_cons_succ])
 go_cut [17] (fun v17 wc => ∃ (kq : Nat) (x17_1 : Bool), v17 = .bool x17_1 ∧ Aside0 (impl_LinesOf.j0 kq x17_1 a0_0 l0_1 = some (r1, r2, r3)) ∧ Aside0 (kq ≤ k) ∧ Aside0 (wc.heap[gb669]? = some (.cells #[.int .i64 a0_0, (.slice A0_1 l0_1.length c0_1)] 30 (0, 0))) ∧ Aside0 (wc.heap[gb670]? = some (.cells #[.int .i64 0, (.slice none 0 0)] 30 (0, 0))) ∧ Aside0 (Below w.heap.size w wc))
 case first =>
  have H := HC2.out
  clear HC2
  replace H := Option.bind_eq_some_iff.mp H
  obtain ⟨t671, A50, H⟩ := H
  replace H : (if t671 = true then (impl_LinesOf.j0 k (decide ((l0_1.length : Int) > 12)) a0_0 l0_1) else (impl_LinesOf.j0 k true a0_0 l0_1)) = some (r1, r2, r3) := H
  have A5 := Aside0.mk A50
  clear A50
  by_cases c6 : t671 = true
  ·subst c6
   have H1 : (impl_LinesOf.j0 k (decide ((l0_1.length : Int) > 12)) a0_0 l0_1) = some (r1, r2, r3) := by rw [if_pos rfl] at H; exact H
   clear H
   have H := H1
   clear H1
   have H' := Aside0.mk H
   clear H
   have hnb7 := NB669_670.out
   have hnc7 := NB670_669.out
   have hcz8_0 : w4.cell? ⟨gb669, 0, none⟩ = some (.int .i64 a0_0) := (blk_cell BK669.out 0).trans rfl
   have hcz8_1 : w4.cell? ⟨gb669, 1, none⟩ = some (.slice A0_1 l0_1.length c0_1) := (blk_cell BK669.out 1).trans rfl
   have hfz8_0 := blk_frozen BK669.out 0
   have hfz8_1 := blk_frozen BK669.out 1
   go_wp2_with (first | ((with_reducible refine gate_callee (f := 76) rfl ?_); refine goesL_ (some 10) rfl rfl Try.func76 (by kernel_rfl) rfl #[.agg #[.int .i64 a0_0, .slice A0_1 l0_1.length c0_1]] rfl (by (try simp only [List.map_toArray, List.map_cons, List.map_nil]); first | done | rfl | (simp only [List.length_drop, List.length_take]; rfl)) ?_; (with_reducible refine (impl_IsParty.calls k a0_0 _ _ l0_1 true _ ?side1 ?side2 A5.out).mono ?_); (case side1 => repeat (first | exact (Kd.C_below HR0_1.out HB.out) | (with_reducible refine Kd.C_alloc ?_ _) | (with_reducible refine Kd.C_drewN ?_ _) | (with_reducible refine Kd.C_drew ?_))); (case side2 => exact HC0_1.out); rintro e w9 ⟨rfl, hb⟩; refine ⟨_, rfl, ?_⟩; have n0_ := Aside0.mk (blk_below (g := gb669) (o := .cells #[.int .i64 a0_0, .slice A0_1 l0_1.length c0_1] 30 (0, 0)) (by (with_reducible repeat (first | refine blk_drewN ?_ _ | refine blk_drew ?_ | refine blk_alloc ?_ _)); exact BK669.out) hb); have n1_ := Aside0.mk (blk_below (g := gb670) (o := .cells #[.int .i64 0, .slice none 0 0] 30 (0, 0)) (by (with_reducible repeat (first | refine blk_drewN ?_ _ | refine blk_drew ?_ | refine blk_alloc ?_ _)); exact BK670.out) hb); have n2_ := Aside0.mk (below_step (by repeat (first | (with_reducible first | exact HB.out | apply below_alloc | apply pw_below_drewN | apply below_drew1 | refine below_set ?_ GE669.out | refine below_set ?_ GE670.out) | exact HB.out)) hb); clear BK669; clear BK670; clear HB; have BK669 := n0_; have BK670 := n1_; have HB := n2_; clear n0_ n1_ n2_; (try clear hb); (try clear hb2); (try clear hk); (try clear hi); have hcz10_0 : w9.cell? ⟨gb669, 0, none⟩ = some (.int .i64 a0_0) := (blk_cell BK669.out 0).trans rfl; have hcz10_1 : w9.cell? ⟨gb669, 1, none⟩ = some (.slice A0_1 l0_1.length c0_1) := (blk_cell BK669.out 1).trans rfl; have hfz10_0 := blk_frozen BK669.out 0; have hfz10_1 := blk_frozen BK669.out 1))
   go_meet
   case rel => exact ⟨_, (decide ((l0_1.length : Int) > 12)), (by first | rfl | (simp; done) | (simp [*]; done)), H', ⟨by first | omega | exact Nat.le_refl _⟩, ⟨by (with_reducible repeat (first | refine blk_drewN ?_ _ | refine blk_drew ?_ | refine blk_alloc ?_ _)); exact BK669.out⟩, ⟨by (with_reducible repeat (first | refine blk_drewN ?_ _ | refine blk_drew ?_ | refine blk_alloc ?_ _)); exact BK670.out⟩, ⟨by repeat (first | (with_reducible first | exact HB.out | apply below_alloc | apply pw_below_drewN | apply below_drew1 | refine below_set ?_ GE669.out | refine below_set ?_ GE670.out) | exact HB.out)⟩⟩
  ·replace c6 := Bool.eq_false_iff.mpr c6
   subst c6
   have H1 : (impl_LinesOf.j0 k true a0_0 l0_1) = some (r1, r2, r3) := by rw [if_neg (show ¬ (false = true) by decide)] at H; exact H
   clear H
   have H := H1
   clear H1
   have H' := Aside0.mk H
   clear H
   have hnb11 := NB669_670.out
   have hnc11 := NB670_669.out
   have hcz12_0 : w4.cell? ⟨gb669, 0, none⟩ = some (.int .i64 a0_0) := (blk_cell BK669.out 0).trans rfl
   have hcz12_1 : w4.cell? ⟨gb669, 1, none⟩ = some (.slice A0_1 l0_1.length c0_1) := (blk_cell BK669.out 1).trans rfl
   have hfz12_0 := blk_frozen BK669.out 0
   have hfz12_1 := blk_frozen BK669.out 1
   go_wp2_with (first | ((with_reducible refine gate_callee (f := 76) rfl ?_); refine goesL_ (some 10) rfl rfl Try.func76 (by kernel_rfl) rfl #[.agg #[.int .i64 a0_0, .slice A0_1 l0_1.length c0_1]] rfl (by (try simp only [List.map_toArray, List.map_cons, List.map_nil]); first | done | rfl | (simp only [List.length_drop, List.length_take]; rfl)) ?_; (with_reducible refine (impl_IsParty.calls k a0_0 _ _ l0_1 false _ ?side1 ?side2 A5.out).mono ?_); (case side1 => repeat (first | exact (Kd.C_below HR0_1.out HB.out) | (with_reducible refine Kd.C_alloc ?_ _) | (with_reducible refine Kd.C_drewN ?_ _) | (with_reducible refine Kd.C_drew ?_))); (case side2 => exact HC0_1.out); rintro e w13 ⟨rfl, hb⟩; refine ⟨_, rfl, ?_⟩; have n0_ := Aside0.mk (blk_below (g := gb669) (o := .cells #[.int .i64 a0_0, .slice A0_1 l0_1.length c0_1] 30 (0, 0)) (by (with_reducible repeat (first | refine blk_drewN ?_ _ | refine blk_drew ?_ | refine blk_alloc ?_ _)); exact BK669.out) hb); have n1_ := Aside0.mk (blk_below (g := gb670) (o := .cells #[.int .i64 0, .slice none 0 0] 30 (0, 0)) (by (with_reducible repeat (first | refine blk_drewN ?_ _ | refine blk_drew ?_ | refine blk_alloc ?_ _)); exact BK670.out) hb); have n2_ := Aside0.mk (below_step (by repeat (first | (with_reducible first | exact HB.out | apply below_alloc | apply pw_below_drewN | apply below_drew1 | refine below_set ?_ GE669.out | refine below_set ?_ GE670.out) | exact HB.out)) hb); clear BK669; clear BK670; clear HB; have BK669 := n0_; have BK670 := n1_; have HB := n2_; clear n0_ n1_ n2_; (try clear hb); (try clear hb2); (try clear hk); (try clear hi)))
   go_meet
   case rel => exact ⟨_, (true), (by first | rfl | (simp; done) | (simp [*]; done)), H', ⟨by first | omega | exact Nat.le_refl _⟩, ⟨by (with_reducible repeat (first | refine blk_drewN ?_ _ | refine blk_drew ?_ | refine blk_alloc ?_ _)); exact BK669.out⟩, ⟨by (with_reducible repeat (first | refine blk_drewN ?_ _ | refine blk_drew ?_ | refine blk_alloc ?_ _)); exact BK670.out⟩, ⟨by repeat (first | (with_reducible first | exact HB.out | apply below_alloc | apply pw_below_drewN | apply below_drew1 | refine below_set ?_ GE669.out | refine below_set ?_ GE670.out) | exact HB.out)⟩⟩
 case rest =>
  clear HC2
  try clear c1
  try clear p2
  try clear c3
  try clear c6
  try clear c7
  try clear c11
  try clear hcz10_0
  try clear hcz10_1
  try clear hcz12_0
  try clear hcz12_1
  try clear hcz8_0
  try clear hcz8_1
  try clear hfz10_0
  try clear hfz10_1
  try clear hfz12_0
  try clear hfz12_1
  try clear hfz8_0
  try clear hfz8_1
  obtain ⟨kq, x17_1, rfl, HA, HJ1, BK669, BK670, HB⟩ := hcut
  cases kq with
  | zero => exact absurd HA.out (by simp [impl_LinesOf.j0])
  | succ kj1 =>
   have H := HA.out
   clear HA
   simp only [impl_LinesOf.j0] at H
   by_cases c14 : x17_1 = true
   ·subst c14
    have H1 : (some (0, ([] : List (S63)), false)) = some (r1, r2, r3) := by rw [if_pos rfl] at H; exact H
    clear H
    have H := H1
    clear H1
    simp only [Option.some.injEq, Prod.mk.injEq] at H
    obtain ⟨rfl, rfl, rfl⟩ := H
    have hnb15 := NB670_669.out
    have hnc15 := NB669_670.out
    have hcz16_0 : wc.cell? ⟨gb670, 0, none⟩ = some (.int .i64 0) := (blk_cell BK670.out 0).trans rfl
    have hcz16_1 : wc.cell? ⟨gb670, 1, none⟩ = some (.slice none 0 0) := (blk_cell BK670.out 1).trans rfl
    have hfz16_0 := blk_frozen BK670.out 0
    have hfz16_1 := blk_frozen BK670.out 1
    go_wp2
    refine bodyPost_ret (results_ct rfl _ _ gb670 30 #[.int .i64 0, .slice none 0 0] (0, 0) _ rfl (by (with_reducible repeat (first | refine blk_drewN ?_ _ | refine blk_drew ?_ | refine blk_alloc ?_ _)); refine blk_put (cs := #[.int .i64 0, .slice none 0 0]) ?_ 1 _ rfl; (with_reducible repeat (first | refine blk_drewN ?_ _ | refine blk_drew ?_ | refine blk_alloc ?_ _)); refine blk_put (cs := #[.int .i64 0, .slice none 0 0]) ?_ 0 _ rfl; (with_reducible repeat (first | refine blk_drewN ?_ _ | refine blk_drew ?_ | refine blk_alloc ?_ _)); exact BK670.out) Try.underlying30 rfl (by kernel_rfl)) rfl ?_
    exact ⟨_, by first | rfl | (simp [errW_none, errW_some] <;> rfl) | (simp [*, errW_none, errW_some] <;> rfl), by first | exact Kd.R_nil _ _ _ _ _ | exact Kd.N_nil _ _ _ _ _ | exact Kd.V_nil _ _ _ _ _ | exact Kd.Q_nil _ _ _ _ _ | exact Kd.S_nil _ _ _ _ _, by repeat (first | (with_reducible first | exact HB.out | apply below_alloc | apply pw_below_drewN | apply below_drew1 | refine below_set ?_ GE669.out | refine below_set ?_ GE670.out) | exact HB.out)⟩
   ·replace c14 := Bool.eq_false_iff.mpr c14
    subst c14
    have H1 : (if 0 ≤ (l0_1.length : Int) then (if ((l0_1.length : Int) : Int).toNat ≤ 140737488355328 then (impl_LinesOf.l0 kj1 (List.replicate ((l0_1.length : Int) : Int).toNat 0) l0_1 (l0_1.length : Int) 0 a0_0 l0_1) else (none)) else (none)) = some (r1, r2, r3) := by rw [if_neg (show ¬ (false = true) by decide)] at H; exact H
    clear H
    have H := H1
    clear H1
    by_cases c17 : 0 ≤ (l0_1.length : Int)
    ·rw [if_pos c17] at H
     have c17b0 := eq_true c17
     have c17b1 : decide (0 ≤ (l0_1.length : Int)) = true := decide_eq_true c17
     clear c17
     by_cases c18 : ((l0_1.length : Int) : Int).toNat ≤ 140737488355328
     ·rw [if_pos c18] at H
      have c18b0 := eq_true c18
      have c18b1 : decide (((l0_1.length : Int) : Int).toNat ≤ 140737488355328) = true := decide_eq_true c18
      clear c18
      obtain ⟨y672, hy672⟩ : ∃ y_ : List Int, y_ = (List.replicate ((l0_1.length : Int) : Int).toNat 0) := ⟨_, rfl⟩
      replace H : (impl_LinesOf.l0 kj1 y672 l0_1 (l0_1.length : Int) 0 a0_0 l0_1) = some (r1, r2, r3) := by first | (rw [hy672]; with_reducible exact H) | (have H2_ := (Option.bind_some _ _).symm.trans H; rw [hy672]; with_reducible exact H2_) | (have H2_ := (Option.bind_some _ _).symm.trans H; with_reducible exact H2_) | with_reducible exact H | (rw [hy672]; exact H) | exact H
      have Ny672 := Aside0.mk hy672
      clear hy672
      have H' := Aside0.mk H
      clear H
      have hnb19 := NB669_670.out
      have hnc19 := NB670_669.out
      have hcz20_0 : wc.cell? ⟨gb669, 0, none⟩ = some (.int .i64 a0_0) := (blk_cell BK669.out 0).trans rfl
      have hcz20_1 : wc.cell? ⟨gb669, 1, none⟩ = some (.slice A0_1 l0_1.length c0_1) := (blk_cell BK669.out 1).trans rfl
      have hfz20_0 := blk_frozen BK669.out 0
      have hfz20_1 := blk_frozen BK669.out 1
      go_wp2_with (first | ((with_reducible refine gate_dst (N := 22) rfl ?_); (try (refine gate_guard (by rfl) ?_; dsimp only)); refine Kd.R_make (Kd.int .u16) _ 69 rfl (N := 22) rfl 58 _ _ rfl (l0_1.length : Int) rfl rfl Try.underlying58 (.int .u16 0) 2 info69 rfl (by decide) (by omega) 0 (ok := fun _ => True) (okp := fun _ => True) rfl (fun _ hk => hk) trivial (of_decide_eq_true (by first | (with_reducible assumption) | assumption)) (Nat.le_trans (Nat.mul_le_mul_right _ (of_decide_eq_true (by first | (with_reducible assumption) | assumption) : (l0_1.length : Int).toNat ≤ 140737488355328)) (by omega)) (Below.refl _ _) (Nat.le_refl _) ?_; intro v673 w21 ho22 hb hg_ hnew_; clear hg_ hnew_; (first | rw [← Ny672.out] at ho22 | (simp only [Int.reduceToNat] at ho22; rw [← Ny672.out] at ho22)); have n0_ := Aside0.mk (Kd.R_lower ho22 (below_size (by repeat (first | (with_reducible first | exact HB.out | apply below_alloc | apply pw_below_drewN | apply below_drew1 | refine below_set ?_ GE669.out | refine below_set ?_ GE670.out) | exact HB.out)))); have n1_ := Aside0.mk (blk_below (g := gb669) (o := .cells #[.int .i64 a0_0, .slice A0_1 l0_1.length c0_1] 30 (0, 0)) (by (with_reducible repeat (first | refine blk_drewN ?_ _ | refine blk_drew ?_ | refine blk_alloc ?_ _)); exact BK669.out) hb); have n2_ := Aside0.mk (blk_below (g := gb670) (o := .cells #[.int .i64 0, .slice none 0 0] 30 (0, 0)) (by (with_reducible repeat (first | refine blk_drewN ?_ _ | refine blk_drew ?_ | refine blk_alloc ?_ _)); exact BK670.out) hb); have n3_ := Aside0.mk (below_step (by repeat (first | (with_reducible first | exact HB.out | apply below_alloc | apply pw_below_drewN | apply below_drew1 | refine below_set ?_ GE669.out | refine below_set ?_ GE670.out) | exact HB.out)) hb); clear BK669; clear BK670; clear HB; have HO674 := n0_; have BK669 := n1_; have BK670 := n2_; have HB := n3_; clear n0_ n1_ n2_ n3_; clear hb ho22; have hcz23_0 : w21.cell? ⟨gb669, 0, none⟩ = some (.int .i64 a0_0) := (blk_cell BK669.out 0).trans rfl; have hcz23_1 : w21.cell? ⟨gb669, 1, none⟩ = some (.slice A0_1 l0_1.length c0_1) := (blk_cell BK669.out 1).trans rfl; have hfz23_0 := blk_frozen BK669.out 0; have hfz23_1 := blk_frozen BK669.out 1))
      go_loopg [26] kj1 (fun kq v26 w' => ∃ (x4_2 : List Int) (x26_2 : Int), v26 = .int .i64 x26_2 ∧ Aside0 (impl_LinesOf.l0 kq x4_2 l0_1 (l0_1.length : Int) x26_2 a0_0 l0_1 = some (r1, r2, r3)) ∧ Aside0 (kq ≤ kj1) ∧ Aside0 (Kd.R (Kd.int .u16) 69 w' w.heap.size (fun _ => True) v673 x4_2) ∧ Aside0 (w'.heap[gb669]? = some (.cells #[.int .i64 a0_0, (.slice A0_1 l0_1.length c0_1)] 30 (0, 0))) ∧ Aside0 (w'.heap[gb670]? = some (.cells #[.int .i64 0, (.slice none 0 0)] 30 (0, 0))) ∧ Aside0 (Below w.heap.size w w'))
      case atStart => exact ⟨(y672), (0), (by first | rfl | (simp; done) | (simp [*]; done)), H', ⟨Nat.le_refl _⟩, ⟨by (with_reducible repeat (first | apply Kd.R_alloc | apply Kd.R_drewN | apply Kd.R_drew)); exact HO674.out⟩, ⟨by (with_reducible repeat (first | refine blk_drewN ?_ _ | refine blk_drew ?_ | refine blk_alloc ?_ _)); exact BK669.out⟩, ⟨by (with_reducible repeat (first | refine blk_drewN ?_ _ | refine blk_drew ?_ | refine blk_alloc ?_ _)); exact BK670.out⟩, ⟨by repeat (first | (with_reducible first | exact HB.out | apply below_alloc | apply pw_below_drewN | apply below_drew1 | refine below_set ?_ GE669.out | refine below_set ?_ GE670.out) | exact HB.out)⟩⟩
      case round =>
       clear H'
       try clear c1
       try clear p2
       try clear c3
       try clear c6
       try clear c7
       try clear c11
       try clear c14
       try clear c15
       try clear c17
       try clear c17b0
       try clear c17b1
       try clear c18
       try clear c18b0
       try clear c18b1
       try clear c19
       try clear hcz10_0
       try clear hcz10_1
       try clear hcz12_0
       try clear hcz12_1
       try clear hcz16_0
       try clear hcz16_1
       try clear hcz20_0
       try clear hcz20_1
       try clear hcz23_0
       try clear hcz23_1
       try clear hcz8_0
       try clear hcz8_1
       try clear hfz10_0
       try clear hfz10_1
       try clear hfz12_0
       try clear hfz12_1
       try clear hfz16_0
       try clear hfz16_1
       try clear hfz20_0
       try clear hfz20_1
       try clear hfz23_0
       try clear hfz23_1
       try clear hfz8_0
       try clear hfz8_1
       try clear p2
       obtain ⟨x4_2, x26_2, rfl, HA, HK2, HO_4, BK669, BK670, HB⟩ := hrel
       cases gk with
       | zero => exact absurd HA.out (by simp [impl_LinesOf.l0])
       | succ k2 =>
        have H := HA.out
        clear HA
        simp only [impl_LinesOf.l0] at H
        by_cases c24 : x26_2 < (l0_1.length : Int)
        ·rw [if_pos c24] at H
         have c24b0 : decide (x26_2 < (l0_1.length : Int)) = true := decide_eq_true c24
         clear c24
         by_cases c25 : 0 ≤ x26_2
         ·rw [if_pos c25] at H
          have c25b0 : decide (0 ≤ x26_2) = true := decide_eq_true c25
          clear c25
          by_cases c26 : x26_2 < (l0_1.length : Int)
          ·rw [if_pos c26] at H
           have c26b0 : decide (x26_2 < (l0_1.length : Int)) = true := decide_eq_true c26
           clear c26
           have c27b0 := eq_true (of_decide_eq_true (by first | (with_reducible assumption) | assumption) : 0 ≤ x26_2)
           by_cases c28 : x26_2 ≤ (l0_1.length : Int)
           ·rw [if_pos c28] at H
            have c28b0 := eq_true c28
            have c28b1 : decide (x26_2 ≤ (l0_1.length : Int)) = true := decide_eq_true c28
            clear c28
            obtain ⟨y681, hy681⟩ : ∃ y_ : List (S63), y_ = (l0_1.take (x26_2 : Int).toNat) := ⟨_, rfl⟩
            replace H : (impl_LinesOf.l1 k2 x4_2 x26_2 l0_1 (l0_1.length : Int) x26_2 y681 (y681.length : Int) 0 a0_0 l0_1 ((rd_T63 l0_1 x26_2).f0) ((rd_T63 l0_1 x26_2).f1)) = some (r1, r2, r3) := by first | (rw [hy681]; with_reducible exact H) | (have H2_ := (Option.bind_some _ _).symm.trans H; rw [hy681]; with_reducible exact H2_) | (have H2_ := (Option.bind_some _ _).symm.trans H; with_reducible exact H2_) | with_reducible exact H | (rw [hy681]; exact H) | exact H
            have Ny681 := Aside0.mk hy681
            clear hy681
            have H' := Aside0.mk H
            clear H
            have p679 : 0 ≤ (x26_2 : Int) := of_decide_eq_true (by first | (with_reducible assumption) | assumption)
            have q679 : x26_2 < (l0_1.length : Int) := of_decide_eq_true (by first | (with_reducible assumption) | assumption)
            obtain ⟨ad679, e679, hx679_0, hx679_1⟩ := at_T63 HR0_1.out x26_2 p679 q679
            cases e679
            replace hx679_0 := (HB.out.cell (World.block_lt_of_cell? w _ hx679_0)).trans hx679_0
            replace hx679_1 := (HB.out.cell (World.block_lt_of_cell? w _ hx679_1)).trans hx679_1
            replace p679 := eq_true p679
            replace q679 := eq_true q679
            go_wp2_with (first | ((with_reducible refine gate_dst (N := 6) rfl ?_); (try (refine gate_guard (by rfl) ?_; dsimp only)); refine box_event ?hg (N := 6) ?hd (cs := #[.int .i64 0, .int .i64 0]) (t := 63) ?hr ?_; (case hd => rfl); (case hg => rfl); (case hr => first | (go_simp; done) | (go_simp; rfl)); intro gb680 hg w29 hbox hb; have n0_ := Aside0.mk (Kd.R_below (by (with_reducible repeat (first | apply Kd.R_alloc | apply Kd.R_drewN | apply Kd.R_drew)); exact HO_4.out) hb); have n1_ := Aside0.mk (blk_below (g := gb669) (o := .cells #[.int .i64 a0_0, .slice (some ad679) l0_1.length c0_1] 30 (0, 0)) (by (with_reducible repeat (first | refine blk_drewN ?_ _ | refine blk_drew ?_ | refine blk_alloc ?_ _)); exact BK669.out) hb); have n2_ := Aside0.mk (blk_below (g := gb670) (o := .cells #[.int .i64 0, .slice none 0 0] 30 (0, 0)) (by (with_reducible repeat (first | refine blk_drewN ?_ _ | refine blk_drew ?_ | refine blk_alloc ?_ _)); exact BK670.out) hb); have n3_ := Aside0.mk (below_step (by repeat (first | (with_reducible first | exact HB.out | apply below_alloc | apply pw_below_drewN | apply below_drew1 | refine below_set ?_ GE669.out | refine below_set ?_ GE670.out) | exact HB.out)) hb); have n4_ := Aside0.mk (hbox); have n5_ := Aside0.mk ((by rw [hg]; exact (below_size (by repeat (first | (with_reducible first | exact HB.out | apply below_alloc | apply pw_below_drewN | apply below_drew1 | refine below_set ?_ GE669.out | refine below_set ?_ GE670.out) | exact HB.out))) : w.heap.size ≤ gb680)); have n6_ := n5_; have n7_ := Aside0.mk ((by rw [hg]; exact Nat.ne_of_lt (blk_lt (g := gb669) (o := .cells #[.int .i64 a0_0, .slice (some ad679) l0_1.length c0_1] 30 (0, 0)) (by (with_reducible repeat (first | refine blk_drewN ?_ _ | refine blk_drew ?_ | refine blk_alloc ?_ _)); exact BK669.out)) : gb669 ≠ gb680)); have n8_ := Aside0.mk n7_.out.symm; have n9_ := Aside0.mk ((by rw [hg]; exact Nat.ne_of_lt (blk_lt (g := gb670) (o := .cells #[.int .i64 0, .slice none 0 0] 30 (0, 0)) (by (with_reducible repeat (first | refine blk_drewN ?_ _ | refine blk_drew ?_ | refine blk_alloc ?_ _)); exact BK670.out)) : gb670 ≠ gb680)); have n10_ := Aside0.mk n9_.out.symm; clear HO_4; clear BK669; clear BK670; clear HB; have HO_4 := n0_; have BK669 := n1_; have BK670 := n2_; have HB := n3_; have BK680 := n4_; have GW680 := n5_; have GE680 := n6_; have NB669_680 := n7_; have NB680_669 := n8_; have NB670_680 := n9_; have NB680_670 := n10_; clear n0_ n1_ n2_ n3_ n4_ n5_ n6_ n7_ n8_ n9_ n10_; clear hb hbox hg; have hnb30 := NB680_669.out; have hnc30 := NB669_680.out; have hnb31 := NB680_670.out; have hnc31 := NB670_680.out; have hcz32_0 : w29.cell? ⟨gb680, 0, none⟩ = some (.int .i64 0) := (blk_cell BK680.out 0).trans rfl; have hcz32_1 : w29.cell? ⟨gb680, 1, none⟩ = some (.int .i64 0) := (blk_cell BK680.out 1).trans rfl; have hfz32_0 := blk_frozen BK680.out 0; have hfz32_1 := blk_frozen BK680.out 1) | ((with_reducible refine gate_store (t := 63) (p := 6) rfl ?_); refine store_event (t := 63) (p := 6) (v := ?vo_w33) (w1 := ((w29.setCell ⟨gb680, 0, none⟩ (.int .i64 ((rd_T63 l0_1 x26_2).f0))).setCell ⟨gb680, 1, none⟩ (.int .i64 ((rd_T63 l0_1 x26_2).f1)))) ?hg ?ho ?hn ?hr ?_; (case ho => rfl); (case hg => rfl); (case hn => rfl); (case hr => first | (go_simp; done) | (go_simp; rfl)); intro w33 hw; have n0_ : Aside0 (Kd.R (Kd.int .u16) 69 w33 w.heap.size (fun _ => True) v673 x4_2) := ⟨(by rw [hw]; exact (by (with_reducible repeat (first | apply Kd.R_alloc | apply Kd.R_drewN | apply Kd.R_drew)); exact Kd.R_mono (Kd.R_far (p := ⟨gb680, 1, none⟩) (Kd.R_far (p := ⟨gb680, 0, none⟩) (Kd.R_types HO_4.out BK680.out (by decide)) (fun _ hk => hk.2) (.int .i64 ((rd_T63 l0_1 x26_2).f0))) (fun _ hk => hk.2) (.int .i64 ((rd_T63 l0_1 x26_2).f1))) (fun _ hk => trivial)))⟩; have n1_ : Aside0 (w33.heap[gb669]? = some (.cells #[.int .i64 a0_0, .slice (some ad679) l0_1.length c0_1] 30 (0, 0))) := ⟨(by rw [hw]; exact (by (with_reducible repeat (first | refine blk_drewN ?_ _ | refine blk_drew ?_ | refine blk_alloc ?_ _)); refine blk_far ?_ NB669_680.out _; (with_reducible repeat (first | refine blk_drewN ?_ _ | refine blk_drew ?_ | refine blk_alloc ?_ _)); refine blk_far ?_ NB669_680.out _; (with_reducible repeat (first | refine blk_drewN ?_ _ | refine blk_drew ?_ | refine blk_alloc ?_ _)); exact BK669.out))⟩; have n2_ : Aside0 (w33.heap[gb670]? = some (.cells #[.int .i64 0, .slice none 0 0] 30 (0, 0))) := ⟨(by rw [hw]; exact (by (with_reducible repeat (first | refine blk_drewN ?_ _ | refine blk_drew ?_ | refine blk_alloc ?_ _)); refine blk_far ?_ NB670_680.out _; (with_reducible repeat (first | refine blk_drewN ?_ _ | refine blk_drew ?_ | refine blk_alloc ?_ _)); refine blk_far ?_ NB670_680.out _; (with_reducible repeat (first | refine blk_drewN ?_ _ | refine blk_drew ?_ | refine blk_alloc ?_ _)); exact BK670.out))⟩; have n3_ : Aside0 (w33.heap[gb680]? = some (.cells #[.int .i64 ((rd_T63 l0_1 x26_2).f0), .int .i64 ((rd_T63 l0_1 x26_2).f1)] 63 (0, 0))) := ⟨(by rw [hw]; exact (by (with_reducible repeat (first | refine blk_drewN ?_ _ | refine blk_drew ?_ | refine blk_alloc ?_ _)); refine blk_put (cs := #[.int .i64 ((rd_T63 l0_1 x26_2).f0), .int .i64 0]) ?_ 1 _ rfl; (with_reducible repeat (first | refine blk_drewN ?_ _ | refine blk_drew ?_ | refine blk_alloc ?_ _)); refine blk_put (cs := #[.int .i64 0, .int .i64 0]) ?_ 0 _ rfl; (with_reducible repeat (first | refine blk_drewN ?_ _ | refine blk_drew ?_ | refine blk_alloc ?_ _)); exact BK680.out))⟩; have n4_ : Aside0 (Below w.heap.size w w33) := ⟨(by rw [hw]; exact (by repeat (first | (with_reducible first | exact HB.out | apply below_alloc | apply pw_below_drewN | apply below_drew1 | refine below_set ?_ GE669.out | refine below_set ?_ GE670.out | refine below_set ?_ GE680.out) | exact HB.out)))⟩; clear hw; clear HO_4; clear BK669; clear BK670; clear BK680; clear HB; have HO_4 := n0_; have BK669 := n1_; have BK670 := n2_; have BK680 := n3_; have HB := n4_; clear n0_ n1_ n2_ n3_ n4_; have hnb34 := NB669_670.out; have hnc34 := NB670_669.out; have hcz35_0 : w33.cell? ⟨gb669, 0, none⟩ = some (.int .i64 a0_0) := (blk_cell BK669.out 0).trans rfl; have hcz35_1 : w33.cell? ⟨gb669, 1, none⟩ = some (.slice (some ad679) l0_1.length c0_1) := (blk_cell BK669.out 1).trans rfl; have hfz35_0 := blk_frozen BK669.out 0; have hfz35_1 := blk_frozen BK669.out 1; have q36 : (x26_2 : Int) ≤ ((l0_1.length : Int) : Int) := of_decide_eq_true (by first | (with_reducible assumption) | assumption); obtain ⟨i036, hi036, _, hsz36, _⟩ := info_parts info63; have hroom36 : l0_1.length ≤ c0_1 := HC0_1.out; have hC36 : Kd.C k63 _ (some ad679) l0_1.length l0_1 := HR0_1.out; have hcut36 := cut_to (P := Try.prog) 28 63 .i64 Try.underlying28 hi036 (some ad679) l0_1.length c0_1 x26_2 (of_decide_eq_true (by first | (with_reducible assumption) | assumption)) q36 hroom36; have hr36 := Kd.C_take (m := (x26_2 : Int).toNat) hC36 (by omega); have hy36 : y681.length = (x26_2 : Int).toNat := (by rw [Ny681.out, List.length_take]; omega); rw [← Ny681.out] at hr36; rw [← hy36] at hcut36; have HR684 := Aside0.mk hr36; have HC684 := Aside0.mk (show y681.length ≤ c0_1 from by omega); clear hr36 hC36 hroom36 hi036 hsz36; have KY36 := Aside0.mk hy36; clear hy36; replace q36 := eq_true q36))
            go_loopg [36] k2 (fun kq v36 w' => ∃ (x4_3 : List Int) (x36_3 : Int), v36 = .int .i64 x36_3 ∧ Aside0 (impl_LinesOf.l1 kq x4_3 x26_2 l0_1 (l0_1.length : Int) x26_2 y681 (y681.length : Int) x36_3 a0_0 l0_1 ((rd_T63 l0_1 x26_2).f0) ((rd_T63 l0_1 x26_2).f1) = some (r1, r2, r3)) ∧ Aside0 (kq ≤ k2) ∧ Aside0 (Kd.R (Kd.int .u16) 69 w' w.heap.size (fun _ => True) v673 x4_3) ∧ Aside0 (w'.heap[gb669]? = some (.cells #[.int .i64 a0_0, (.slice (some ad679) l0_1.length c0_1)] 30 (0, 0))) ∧ Aside0 (w'.heap[gb670]? = some (.cells #[.int .i64 0, (.slice none 0 0)] 30 (0, 0))) ∧ Aside0 (w'.heap[gb680]? = some (.cells #[.int .i64 ((rd_T63 l0_1 x26_2).f0), .int .i64 ((rd_T63 l0_1 x26_2).f1)] 63 (0, 0))) ∧ Aside0 (Below w.heap.size w w'))
            case atStart => exact ⟨(x4_2), (0), (by first | rfl | (simp; done) | (simp [*]; done)), H', ⟨Nat.le_refl _⟩, ⟨by (with_reducible repeat (first | apply Kd.R_alloc | apply Kd.R_drewN | apply Kd.R_drew)); exact HO_4.out⟩, ⟨by (with_reducible repeat (first | refine blk_drewN ?_ _ | refine blk_drew ?_ | refine blk_alloc ?_ _)); exact BK669.out⟩, ⟨by (with_reducible repeat (first | refine blk_drewN ?_ _ | refine blk_drew ?_ | refine blk_alloc ?_ _)); exact BK670.out⟩, ⟨by (with_reducible repeat (first | refine blk_drewN ?_ _ | refine blk_drew ?_ | refine blk_alloc ?_ _)); exact BK680.out⟩, ⟨by repeat (first | (with_reducible first | exact HB.out | apply below_alloc | apply pw_below_drewN | apply below_drew1 | refine below_set ?_ GE669.out | refine below_set ?_ GE670.out | refine below_set ?_ GE680.out) | exact HB.out)⟩⟩
            case round =>
             clear H'
             try clear c1
             try clear c2
             try clear p2
             try clear c3
             try clear q3
             try clear c6
             try clear p6
             try clear q6
             try clear hx6
             try clear c7
             try clear c11
             try clear c14
             try clear c15
             try clear c17
             try clear c17b0
             try clear c17b1
             try clear c18
             try clear c18b0
             try clear c18b1
             try clear c19
             try clear c24
             try clear c24b0
             try clear c25
             try clear c25b0
             try clear c26
             try clear c26b0
             try clear c27
             try clear c27b0
             try clear c28
             try clear c28b0
             try clear c28b1
             try clear c30
             try clear c31
             try clear c34
             try clear q36
             try clear hcz10_0
             try clear hcz10_1
             try clear hcz12_0
             try clear hcz12_1
             try clear hcz16_0
             try clear hcz16_1
             try clear hcz20_0
             try clear hcz20_1
             try clear hcz23_0
             try clear hcz23_1
             try clear hcz32_0
             try clear hcz32_1
             try clear hcz35_0
             try clear hcz35_1
             try clear hcz8_0
             try clear hcz8_1
             try clear hfz10_0
             try clear hfz10_1
             try clear hfz12_0
             try clear hfz12_1
             try clear hfz16_0
             try clear hfz16_1
             try clear hfz20_0
             try clear hfz20_1
             try clear hfz23_0
             try clear hfz23_1
             try clear hfz32_0
             try clear hfz32_1
             try clear hfz35_0
             try clear hfz35_1
             try clear hfz8_0
             try clear hfz8_1
             try clear hx679_0
             try clear hx679_1
             try clear p2
             try clear p679
             try clear q36
             try clear q679
             obtain ⟨x4_3, x36_3, rfl, HA, HK3, HO_4, BK669, BK670, BK680, HB⟩ := hrel
             cases gk with
             | zero => exact absurd HA.out (by simp [impl_LinesOf.l1])
             | succ k3 =>
              have H := HA.out
              clear HA
              simp only [impl_LinesOf.l1] at H
              by_cases c37 : x36_3 < (y681.length : Int)
              ·rw [if_pos c37] at H
               have c37b0 : decide (x36_3 < (y681.length : Int)) = true := decide_eq_true c37
               clear c37
               by_cases c38 : 0 ≤ x36_3
               ·rw [if_pos c38] at H
                have c38b0 : decide (0 ≤ x36_3) = true := decide_eq_true c38
                clear c38
                by_cases c39 : x36_3 < (y681.length : Int)
                ·rw [if_pos c39] at H
                 have c39b0 : decide (x36_3 < (y681.length : Int)) = true := decide_eq_true c39
                 clear c39
                 by_cases c40 : ((rd_T63 l0_1 x26_2).f0) = ((rd_T63 y681 x36_3).f0)
                 ·rw [if_pos c40] at H
                  have c40b0 : (((rd_T63 l0_1 x26_2).f0) == ((rd_T63 y681 x36_3).f0)) = true := beq_iff_eq.mpr c40
                  have c40b1 : (((rd_T63 l0_1 x26_2).f0) != ((rd_T63 y681 x36_3).f0)) = false := bne_eq_false_iff_eq.mpr c40
                  clear c40
                  replace H := Option.bind_eq_some_iff.mp H
                  obtain ⟨t687, A410, H⟩ := H
                  replace H : (impl_LinesOf.l1 k3 t687 x26_2 l0_1 (l0_1.length : Int) x26_2 y681 (y681.length : Int) (wrap64 (x36_3 + 1)) a0_0 l0_1 ((rd_T63 l0_1 x26_2).f0) ((rd_T63 l0_1 x26_2).f1)) = some (r1, r2, r3) := H
                  have A41 := Aside0.mk A410
                  clear A410
                  have H' := Aside0.mk H
                  clear H
                  have p685 : 0 ≤ (x36_3 : Int) := of_decide_eq_true (by first | (with_reducible assumption) | assumption)
                  have q685 : x36_3 < (y681.length : Int) := of_decide_eq_true (by first | (with_reducible assumption) | assumption)
                  obtain ⟨ad685, e685, hx685_0, hx685_1⟩ := at_T63 HR684.out x36_3 p685 q685
                  obtain rfl : ad679 = ad685 := (by injection e685)
                  replace hx685_0 := (HB.out.cell (World.block_lt_of_cell? w _ hx685_0)).trans hx685_0
                  replace hx685_1 := (HB.out.cell (World.block_lt_of_cell? w _ hx685_1)).trans hx685_1
                  replace p685 := eq_true p685
                  replace q685 := eq_true q685
                  go_wp2_with (first | ((with_reducible refine gate_dst (N := 8) rfl ?_); (try (refine gate_guard (by rfl) ?_; dsimp only)); refine box_event ?hg (N := 8) ?hd (cs := #[.int .i64 0, .int .i64 0]) (t := 63) ?hr ?_; (case hd => rfl); (case hg => rfl); (case hr => first | (go_simp; done) | (go_simp; rfl)); intro gb686 hg w42 hbox hb; have n0_ := Aside0.mk (Kd.R_below (by (with_reducible repeat (first | apply Kd.R_alloc | apply Kd.R_drewN | apply Kd.R_drew)); exact HO_4.out) hb); have n1_ := Aside0.mk (blk_below (g := gb669) (o := .cells #[.int .i64 a0_0, .slice (some ad679) l0_1.length c0_1] 30 (0, 0)) (by (with_reducible repeat (first | refine blk_drewN ?_ _ | refine blk_drew ?_ | refine blk_alloc ?_ _)); exact BK669.out) hb); have n2_ := Aside0.mk (blk_below (g := gb670) (o := .cells #[.int .i64 0, .slice none 0 0] 30 (0, 0)) (by (with_reducible repeat (first | refine blk_drewN ?_ _ | refine blk_drew ?_ | refine blk_alloc ?_ _)); exact BK670.out) hb); have n3_ := Aside0.mk (blk_below (g := gb680) (o := .cells #[.int .i64 ((rd_T63 l0_1 x26_2).f0), .int .i64 ((rd_T63 l0_1 x26_2).f1)] 63 (0, 0)) (by (with_reducible repeat (first | refine blk_drewN ?_ _ | refine blk_drew ?_ | refine blk_alloc ?_ _)); exact BK680.out) hb); have n4_ := Aside0.mk (below_step (by repeat (first | (with_reducible first | exact HB.out | apply below_alloc | apply pw_below_drewN | apply below_drew1 | refine below_set ?_ GE669.out | refine below_set ?_ GE670.out | refine below_set ?_ GE680.out) | exact HB.out)) hb); have n5_ := Aside0.mk (hbox); have n6_ := Aside0.mk ((by rw [hg]; exact (below_size (by repeat (first | (with_reducible first | exact HB.out | apply below_alloc | apply pw_below_drewN | apply below_drew1 | refine below_set ?_ GE669.out | refine below_set ?_ GE670.out | refine below_set ?_ GE680.out) | exact HB.out))) : w.heap.size ≤ gb686)); have n7_ := n6_; have n8_ := Aside0.mk ((by rw [hg]; exact Nat.ne_of_lt (blk_lt (g := gb669) (o := .cells #[.int .i64 a0_0, .slice (some ad679) l0_1.length c0_1] 30 (0, 0)) (by (with_reducible repeat (first | refine blk_drewN ?_ _ | refine blk_drew ?_ | refine blk_alloc ?_ _)); exact BK669.out)) : gb669 ≠ gb686)); have n9_ := Aside0.mk n8_.out.symm; have n10_ := Aside0.mk ((by rw [hg]; exact Nat.ne_of_lt (blk_lt (g := gb670) (o := .cells #[.int .i64 0, .slice none 0 0] 30 (0, 0)) (by (with_reducible repeat (first | refine blk_drewN ?_ _ | refine blk_drew ?_ | refine blk_alloc ?_ _)); exact BK670.out)) : gb670 ≠ gb686)); have n11_ := Aside0.mk n10_.out.symm; have n12_ := Aside0.mk ((by rw [hg]; exact Nat.ne_of_lt (blk_lt (g := gb680) (o := .cells #[.int .i64 ((rd_T63 l0_1 x26_2).f0), .int .i64 ((rd_T63 l0_1 x26_2).f1)] 63 (0, 0)) (by (with_reducible repeat (first | refine blk_drewN ?_ _ | refine blk_drew ?_ | refine blk_alloc ?_ _)); exact BK680.out)) : gb680 ≠ gb686)); have n13_ := Aside0.mk n12_.out.symm; clear HO_4; clear BK669; clear BK670; clear BK680; clear HB; have HO_4 := n0_; have BK669 := n1_; have BK670 := n2_; have BK680 := n3_; have HB := n4_; have BK686 := n5_; have GW686 := n6_; have GE686 := n7_; have NB669_686 := n8_; have NB686_669 := n9_; have NB670_686 := n10_; have NB686_670 := n11_; have NB680_686 := n12_; have NB686_680 := n13_; clear n0_ n1_ n2_ n3_ n4_ n5_ n6_ n7_ n8_ n9_ n10_ n11_ n12_ n13_; clear hb hbox hg; have hnb43 := NB686_669.out; have hnc43 := NB669_686.out; have hnb44 := NB686_670.out; have hnc44 := NB670_686.out; have hnb45 := NB686_680.out; have hnc45 := NB680_686.out; have hcz46_0 : w42.cell? ⟨gb686, 0, none⟩ = some (.int .i64 0) := (blk_cell BK686.out 0).trans rfl; have hcz46_1 : w42.cell? ⟨gb686, 1, none⟩ = some (.int .i64 0) := (blk_cell BK686.out 1).trans rfl; have hfz46_0 := blk_frozen BK686.out 0; have hfz46_1 := blk_frozen BK686.out 1) | ((with_reducible refine gate_store (t := 63) (p := 8) rfl ?_); refine store_event (t := 63) (p := 8) (v := ?vo_w47) (w1 := ((w42.setCell ⟨gb686, 0, none⟩ (.int .i64 ((rd_T63 y681 x36_3).f0))).setCell ⟨gb686, 1, none⟩ (.int .i64 ((rd_T63 y681 x36_3).f1)))) ?hg ?ho ?hn ?hr ?_; (case ho => rfl); (case hg => rfl); (case hn => rfl); (case hr => first | (go_simp; done) | (go_simp; rfl)); intro w47 hw; have n0_ : Aside0 (Kd.R (Kd.int .u16) 69 w47 w.heap.size (fun _ => True) v673 x4_3) := ⟨(by rw [hw]; exact (by (with_reducible repeat (first | apply Kd.R_alloc | apply Kd.R_drewN | apply Kd.R_drew)); exact Kd.R_mono (Kd.R_far (p := ⟨gb686, 1, none⟩) (Kd.R_far (p := ⟨gb686, 0, none⟩) (Kd.R_types HO_4.out BK686.out (by decide)) (fun _ hk => hk.2) (.int .i64 ((rd_T63 y681 x36_3).f0))) (fun _ hk => hk.2) (.int .i64 ((rd_T63 y681 x36_3).f1))) (fun _ hk => trivial)))⟩; have n1_ : Aside0 (w47.heap[gb669]? = some (.cells #[.int .i64 a0_0, .slice (some ad679) l0_1.length c0_1] 30 (0, 0))) := ⟨(by rw [hw]; exact (by (with_reducible repeat (first | refine blk_drewN ?_ _ | refine blk_drew ?_ | refine blk_alloc ?_ _)); refine blk_far ?_ NB669_686.out _; (with_reducible repeat (first | refine blk_drewN ?_ _ | refine blk_drew ?_ | refine blk_alloc ?_ _)); refine blk_far ?_ NB669_686.out _; (with_reducible repeat (first | refine blk_drewN ?_ _ | refine blk_drew ?_ | refine blk_alloc ?_ _)); exact BK669.out))⟩; have n2_ : Aside0 (w47.heap[gb670]? = some (.cells #[.int .i64 0, .slice none 0 0] 30 (0, 0))) := ⟨(by rw [hw]; exact (by (with_reducible repeat (first | refine blk_drewN ?_ _ | refine blk_drew ?_ | refine blk_alloc ?_ _)); refine blk_far ?_ NB670_686.out _; (with_reducible repeat (first | refine blk_drewN ?_ _ | refine blk_drew ?_ | refine blk_alloc ?_ _)); refine blk_far ?_ NB670_686.out _; (with_reducible repeat (first | refine blk_drewN ?_ _ | refine blk_drew ?_ | refine blk_alloc ?_ _)); exact BK670.out))⟩; have n3_ : Aside0 (w47.heap[gb680]? = some (.cells #[.int .i64 ((rd_T63 l0_1 x26_2).f0), .int .i64 ((rd_T63 l0_1 x26_2).f1)] 63 (0, 0))) := ⟨(by rw [hw]; exact (by (with_reducible repeat (first | refine blk_drewN ?_ _ | refine blk_drew ?_ | refine blk_alloc ?_ _)); refine blk_far ?_ NB680_686.out _; (with_reducible repeat (first | refine blk_drewN ?_ _ | refine blk_drew ?_ | refine blk_alloc ?_ _)); refine blk_far ?_ NB680_686.out _; (with_reducible repeat (first | refine blk_drewN ?_ _ | refine blk_drew ?_ | refine blk_alloc ?_ _)); exact BK680.out))⟩; have n4_ : Aside0 (w47.heap[gb686]? = some (.cells #[.int .i64 ((rd_T63 y681 x36_3).f0), .int .i64 ((rd_T63 y681 x36_3).f1)] 63 (0, 0))) := ⟨(by rw [hw]; exact (by (with_reducible repeat (first | refine blk_drewN ?_ _ | refine blk_drew ?_ | refine blk_alloc ?_ _)); refine blk_put (cs := #[.int .i64 ((rd_T63 y681 x36_3).f0), .int .i64 0]) ?_ 1 _ rfl; (with_reducible repeat (first | refine blk_drewN ?_ _ | refine blk_drew ?_ | refine blk_alloc ?_ _)); refine blk_put (cs := #[.int .i64 0, .int .i64 0]) ?_ 0 _ rfl; (with_reducible repeat (first | refine blk_drewN ?_ _ | refine blk_drew ?_ | refine blk_alloc ?_ _)); exact BK686.out))⟩; have n5_ : Aside0 (Below w.heap.size w w47) := ⟨(by rw [hw]; exact (by repeat (first | (with_reducible first | exact HB.out | apply below_alloc | apply pw_below_drewN | apply below_drew1 | refine below_set ?_ GE669.out | refine below_set ?_ GE670.out | refine below_set ?_ GE680.out | refine below_set ?_ GE686.out) | exact HB.out)))⟩; clear hw; clear HO_4; clear BK669; clear BK670; clear BK680; clear BK686; clear HB; have HO_4 := n0_; have BK669 := n1_; have BK670 := n2_; have BK680 := n3_; have BK686 := n4_; have HB := n5_; clear n0_ n1_ n2_ n3_ n4_ n5_; have hnb48 := NB680_669.out; have hnc48 := NB669_680.out; have hnb49 := NB680_670.out; have hnc49 := NB670_680.out; have hcz50_0 : w47.cell? ⟨gb680, 0, none⟩ = some (.int .i64 ((rd_T63 l0_1 x26_2).f0)) := (blk_cell BK680.out 0).trans rfl; have hcz50_1 : w47.cell? ⟨gb680, 1, none⟩ = some (.int .i64 ((rd_T63 l0_1 x26_2).f1)) := (blk_cell BK680.out 1).trans rfl; have hfz50_0 := blk_frozen BK680.out 0; have hfz50_1 := blk_frozen BK680.out 1; have hcz51_0 : w47.cell? ⟨gb686, 0, none⟩ = some (.int .i64 ((rd_T63 y681 x36_3).f0)) := (blk_cell BK686.out 0).trans rfl; have hcz51_1 : w47.cell? ⟨gb686, 1, none⟩ = some (.int .i64 ((rd_T63 y681 x36_3).f1)) := (blk_cell BK686.out 1).trans rfl; have hfz51_0 := blk_frozen BK686.out 0; have hfz51_1 := blk_frozen BK686.out 1; obtain ⟨Ao52, co52, eo52⟩ := Kd.R_slice HO_4.out; subst eo52) | ((with_reducible refine gate_callee (f := 63) rfl ?_); refine goesL_ (some 70) rfl rfl Try.func63 (by kernel_rfl) rfl #[.slice Ao52 x4_3.length co52, .int .i64 x26_2, .int .i64 x36_3] rfl (by (try simp only [List.map_toArray, List.map_cons, List.map_nil]); first | done | rfl | (simp only [List.length_drop, List.length_take]; rfl)) ?_; (with_reducible refine (impl_table_put.calls (fun k_ => some k_ = (.slice Ao52 x4_3.length co52 : Value).ownBlock) (.slice Ao52 x4_3.length co52) x4_3 x26_2 x36_3 t687 w _ ?side1 ?side2 A41.out).mono ?_); (case side1 => repeat (first | (with_reducible first | exact HB.out | apply below_alloc | apply pw_below_drewN | apply below_drew1 | refine below_set ?_ GE669.out | refine below_set ?_ GE670.out | refine below_set ?_ GE680.out | refine below_set ?_ GE686.out) | exact HB.out)); (case side2 => exact Kd.R_tight rfl HO_4.out); rintro e w53 ⟨rfl, hy0, hb, hkp⟩; refine ⟨_, rfl, ?_⟩; have n0_ := Aside0.mk (Kd.R_reok rfl hy0 (fun k_ e_ => HO_4.out.1 k_ e_)); have n1_ := Aside0.mk (blk_kept (by (with_reducible repeat (first | refine blk_drewN ?_ _ | refine blk_drew ?_ | refine blk_alloc ?_ _)); exact BK669.out) hkp (fun hs_ => (fun e_ => (Kd.R_ne HO_4.out BK669.out (by decide)) e_) hs_)); have n2_ := Aside0.mk (blk_kept (by (with_reducible repeat (first | refine blk_drewN ?_ _ | refine blk_drew ?_ | refine blk_alloc ?_ _)); exact BK670.out) hkp (fun hs_ => (fun e_ => (Kd.R_ne HO_4.out BK670.out (by decide)) e_) hs_)); have n3_ := Aside0.mk (blk_kept (by (with_reducible repeat (first | refine blk_drewN ?_ _ | refine blk_drew ?_ | refine blk_alloc ?_ _)); exact BK680.out) hkp (fun hs_ => (fun e_ => (Kd.R_ne HO_4.out BK680.out (by decide)) e_) hs_)); have n4_ := Aside0.mk (blk_kept (by (with_reducible repeat (first | refine blk_drewN ?_ _ | refine blk_drew ?_ | refine blk_alloc ?_ _)); exact BK686.out) hkp (fun hs_ => (fun e_ => (Kd.R_ne HO_4.out BK686.out (by decide)) e_) hs_)); have n5_ := Aside0.mk (hb); clear HO_4; clear BK669; clear BK670; clear BK680; clear BK686; clear HB; have HO_4 := n0_; have BK669 := n1_; have BK670 := n2_; have BK680 := n3_; have BK686 := n4_; have HB := n5_; clear n0_ n1_ n2_ n3_ n4_ n5_; (try clear hb); (try clear hkp); (try clear hy0)))
                  go_roundg k3
                  case measure => have := HJ1.out; have := HK2.out; have := HK3.out; omega
                  case rel => exact ⟨(t687), (wrap64 (x36_3 + 1)), (by first | rfl | (simp; done) | (simp [*]; done)), H', ⟨by have := HJ1.out; have := HK2.out; have := HK3.out; omega⟩, ⟨by (with_reducible repeat (first | apply Kd.R_alloc | apply Kd.R_drewN | apply Kd.R_drew)); exact HO_4.out⟩, ⟨by (with_reducible repeat (first | refine blk_drewN ?_ _ | refine blk_drew ?_ | refine blk_alloc ?_ _)); exact BK669.out⟩, ⟨by (with_reducible repeat (first | refine blk_drewN ?_ _ | refine blk_drew ?_ | refine blk_alloc ?_ _)); exact BK670.out⟩, ⟨by (with_reducible repeat (first | refine blk_drewN ?_ _ | refine blk_drew ?_ | refine blk_alloc ?_ _)); exact BK680.out⟩, ⟨by repeat (first | (with_reducible first | exact HB.out | apply below_alloc | apply pw_below_drewN | apply below_drew1 | refine below_set ?_ GE669.out | refine below_set ?_ GE670.out | refine below_set ?_ GE680.out | refine below_set ?_ GE686.out) | exact HB.out)⟩⟩
                 ·rw [if_neg c40] at H
                  have c40b0 : (((rd_T63 l0_1 x26_2).f0) == ((rd_T63 y681 x36_3).f0)) = false := beq_eq_false_iff_ne.mpr c40
                  have c40b1 : (((rd_T63 l0_1 x26_2).f0) != ((rd_T63 y681 x36_3).f0)) = true := bne_iff_ne.mpr c40
                  by_cases c54 : ((rd_T63 l0_1 x26_2).f0) = ((rd_T63 y681 x36_3).f1)
                  ·rw [if_pos c54] at H
                   have c54b0 : (((rd_T63 l0_1 x26_2).f0) == ((rd_T63 y681 x36_3).f1)) = true := beq_iff_eq.mpr c54
                   have c54b1 : (((rd_T63 l0_1 x26_2).f0) != ((rd_T63 y681 x36_3).f1)) = false := bne_eq_false_iff_eq.mpr c54
                   clear c54
                   replace H := Option.bind_eq_some_iff.mp H
                   obtain ⟨t688, A550, H⟩ := H
                   replace H : (impl_LinesOf.l1 k3 t688 x26_2 l0_1 (l0_1.length : Int) x26_2 y681 (y681.length : Int) (wrap64 (x36_3 + 1)) a0_0 l0_1 ((rd_T63 l0_1 x26_2).f0) ((rd_T63 l0_1 x26_2).f1)) = some (r1, r2, r3) := H
                   have A55 := Aside0.mk A550
                   clear A550
                   have H' := Aside0.mk H
                   clear H
                   have p685 : 0 ≤ (x36_3 : Int) := of_decide_eq_true (by first | (with_reducible assumption) | assumption)
                   have q685 : x36_3 < (y681.length : Int) := of_decide_eq_true (by first | (with_reducible assumption) | assumption)
                   obtain ⟨ad685, e685, hx685_0, hx685_1⟩ := at_T63 HR684.out x36_3 p685 q685
                   obtain rfl : ad679 = ad685 := (by injection e685)
                   replace hx685_0 := (HB.out.cell (World.block_lt_of_cell? w _ hx685_0)).trans hx685_0
                   replace hx685_1 := (HB.out.cell (World.block_lt_of_cell? w _ hx685_1)).trans hx685_1
                   replace p685 := eq_true p685
                   replace q685 := eq_true q685
                   go_wp2_with (first | ((with_reducible refine gate_dst (N := 8) rfl ?_); (try (refine gate_guard (by rfl) ?_; dsimp only)); refine box_event ?hg (N := 8) ?hd (cs := #[.int .i64 0, .int .i64 0]) (t := 63) ?hr ?_; (case hd => rfl); (case hg => rfl); (case hr => first | (go_simp; done) | (go_simp; rfl)); intro gb686 hg w56 hbox hb; have n0_ := Aside0.mk (Kd.R_below (by (with_reducible repeat (first | apply Kd.R_alloc | apply Kd.R_drewN | apply Kd.R_drew)); exact HO_4.out) hb); have n1_ := Aside0.mk (blk_below (g := gb669) (o := .cells #[.int .i64 a0_0, .slice (some ad679) l0_1.length c0_1] 30 (0, 0)) (by (with_reducible repeat (first | refine blk_drewN ?_ _ | refine blk_drew ?_ | refine blk_alloc ?_ _)); exact BK669.out) hb); have n2_ := Aside0.mk (blk_below (g := gb670) (o := .cells #[.int .i64 0, .slice none 0 0] 30 (0, 0)) (by (with_reducible repeat (first | refine blk_drewN ?_ _ | refine blk_drew ?_ | refine blk_alloc ?_ _)); exact BK670.out) hb); have n3_ := Aside0.mk (blk_below (g := gb680) (o := .cells #[.int .i64 ((rd_T63 l0_1 x26_2).f0), .int .i64 ((rd_T63 l0_1 x26_2).f1)] 63 (0, 0)) (by (with_reducible repeat (first | refine blk_drewN ?_ _ | refine blk_drew ?_ | refine blk_alloc ?_ _)); exact BK680.out) hb); have n4_ := Aside0.mk (below_step (by repeat (first | (with_reducible first | exact HB.out | apply below_alloc | apply pw_below_drewN | apply below_drew1 | refine below_set ?_ GE669.out | refine below_set ?_ GE670.out | refine below_set ?_ GE680.out) | exact HB.out)) hb); have n5_ := Aside0.mk (hbox); have n6_ := Aside0.mk ((by rw [hg]; exact (below_size (by repeat (first | (with_reducible first | exact HB.out | apply below_alloc | apply pw_below_drewN | apply below_drew1 | refine below_set ?_ GE669.out | refine below_set ?_ GE670.out | refine below_set ?_ GE680.out) | exact HB.out))) : w.heap.size ≤ gb686)); have n7_ := n6_; have n8_ := Aside0.mk ((by rw [hg]; exact Nat.ne_of_lt (blk_lt (g := gb669) (o := .cells #[.int .i64 a0_0, .slice (some ad679) l0_1.length c0_1] 30 (0, 0)) (by (with_reducible repeat (first | refine blk_drewN ?_ _ | refine blk_drew ?_ | refine blk_alloc ?_ _)); exact BK669.out)) : gb669 ≠ gb686)); have n9_ := Aside0.mk n8_.out.symm; have n10_ := Aside0.mk ((by rw [hg]; exact Nat.ne_of_lt (blk_lt (g := gb670) (o := .cells #[.int .i64 0, .slice none 0 0] 30 (0, 0)) (by (with_reducible repeat (first | refine blk_drewN ?_ _ | refine blk_drew ?_ | refine blk_alloc ?_ _)); exact BK670.out)) : gb670 ≠ gb686)); have n11_ := Aside0.mk n10_.out.symm; have n12_ := Aside0.mk ((by rw [hg]; exact Nat.ne_of_lt (blk_lt (g := gb680) (o := .cells #[.int .i64 ((rd_T63 l0_1 x26_2).f0), .int .i64 ((rd_T63 l0_1 x26_2).f1)] 63 (0, 0)) (by (with_reducible repeat (first | refine blk_drewN ?_ _ | refine blk_drew ?_ | refine blk_alloc ?_ _)); exact BK680.out)) : gb680 ≠ gb686)); have n13_ := Aside0.mk n12_.out.symm; clear HO_4; clear BK669; clear BK670; clear BK680; clear HB; have HO_4 := n0_; have BK669 := n1_; have BK670 := n2_; have BK680 := n3_; have HB := n4_; have BK686 := n5_; have GW686 := n6_; have GE686 := n7_; have NB669_686 := n8_; have NB686_669 := n9_; have NB670_686 := n10_; have NB686_670 := n11_; have NB680_686 := n12_; have NB686_680 := n13_; clear n0_ n1_ n2_ n3_ n4_ n5_ n6_ n7_ n8_ n9_ n10_ n11_ n12_ n13_; clear hb hbox hg; have hnb57 := NB686_669.out; have hnc57 := NB669_686.out; have hnb58 := NB686_670.out; have hnc58 := NB670_686.out; have hnb59 := NB686_680.out; have hnc59 := NB680_686.out; have hcz60_0 : w56.cell? ⟨gb686, 0, none⟩ = some (.int .i64 0) := (blk_cell BK686.out 0).trans rfl; have hcz60_1 : w56.cell? ⟨gb686, 1, none⟩ = some (.int .i64 0) := (blk_cell BK686.out 1).trans rfl; have hfz60_0 := blk_frozen BK686.out 0; have hfz60_1 := blk_frozen BK686.out 1) | ((with_reducible refine gate_store (t := 63) (p := 8) rfl ?_); refine store_event (t := 63) (p := 8) (v := ?vo_w61) (w1 := ((w56.setCell ⟨gb686, 0, none⟩ (.int .i64 ((rd_T63 y681 x36_3).f0))).setCell ⟨gb686, 1, none⟩ (.int .i64 ((rd_T63 y681 x36_3).f1)))) ?hg ?ho ?hn ?hr ?_; (case ho => rfl); (case hg => rfl); (case hn => rfl); (case hr => first | (go_simp; done) | (go_simp; rfl)); intro w61 hw; have n0_ : Aside0 (Kd.R (Kd.int .u16) 69 w61 w.heap.size (fun _ => True) v673 x4_3) := ⟨(by rw [hw]; exact (by (with_reducible repeat (first | apply Kd.R_alloc | apply Kd.R_drewN | apply Kd.R_drew)); exact Kd.R_mono (Kd.R_far (p := ⟨gb686, 1, none⟩) (Kd.R_far (p := ⟨gb686, 0, none⟩) (Kd.R_types HO_4.out BK686.out (by decide)) (fun _ hk => hk.2) (.int .i64 ((rd_T63 y681 x36_3).f0))) (fun _ hk => hk.2) (.int .i64 ((rd_T63 y681 x36_3).f1))) (fun _ hk => trivial)))⟩; have n1_ : Aside0 (w61.heap[gb669]? = some (.cells #[.int .i64 a0_0, .slice (some ad679) l0_1.length c0_1] 30 (0, 0))) := ⟨(by rw [hw]; exact (by (with_reducible repeat (first | refine blk_drewN ?_ _ | refine blk_drew ?_ | refine blk_alloc ?_ _)); refine blk_far ?_ NB669_686.out _; (with_reducible repeat (first | refine blk_drewN ?_ _ | refine blk_drew ?_ | refine blk_alloc ?_ _)); refine blk_far ?_ NB669_686.out _; (with_reducible repeat (first | refine blk_drewN ?_ _ | refine blk_drew ?_ | refine blk_alloc ?_ _)); exact BK669.out))⟩; have n2_ : Aside0 (w61.heap[gb670]? = some (.cells #[.int .i64 0, .slice none 0 0] 30 (0, 0))) := ⟨(by rw [hw]; exact (by (with_reducible repeat (first | refine blk_drewN ?_ _ | refine blk_drew ?_ | refine blk_alloc ?_ _)); refine blk_far ?_ NB670_686.out _; (with_reducible repeat (first | refine blk_drewN ?_ _ | refine blk_drew ?_ | refine blk_alloc ?_ _)); refine blk_far ?_ NB670_686.out _; (with_reducible repeat (first | refine blk_drewN ?_ _ | refine blk_drew ?_ | refine blk_alloc ?_ _)); exact BK670.out))⟩; have n3_ : Aside0 (w61.heap[gb680]? = some (.cells #[.int .i64 ((rd_T63 l0_1 x26_2).f0), .int .i64 ((rd_T63 l0_1 x26_2).f1)] 63 (0, 0))) := ⟨(by rw [hw]; exact (by (with_reducible repeat (first | refine blk_drewN ?_ _ | refine blk_drew ?_ | refine blk_alloc ?_ _)); refine blk_far ?_ NB680_686.out _; (with_reducible repeat (first | refine blk_drewN ?_ _ | refine blk_drew ?_ | refine blk_alloc ?_ _)); refine blk_far ?_ NB680_686.out _; (with_reducible repeat (first | refine blk_drewN ?_ _ | refine blk_drew ?_ | refine blk_alloc ?_ _)); exact BK680.out))⟩; have n4_ : Aside0 (w61.heap[gb686]? = some (.cells #[.int .i64 ((rd_T63 y681 x36_3).f0), .int .i64 ((rd_T63 y681 x36_3).f1)] 63 (0, 0))) := ⟨(by rw [hw]; exact (by (with_reducible repeat (first | refine blk_drewN ?_ _ | refine blk_drew ?_ | refine blk_alloc ?_ _)); refine blk_put (cs := #[.int .i64 ((rd_T63 y681 x36_3).f0), .int .i64 0]) ?_ 1 _ rfl; (with_reducible repeat (first | refine blk_drewN ?_ _ | refine blk_drew ?_ | refine blk_alloc ?_ _)); refine blk_put (cs := #[.int .i64 0, .int .i64 0]) ?_ 0 _ rfl; (with_reducible repeat (first | refine blk_drewN ?_ _ | refine blk_drew ?_ | refine blk_alloc ?_ _)); exact BK686.out))⟩; have n5_ : Aside0 (Below w.heap.size w w61) := ⟨(by rw [hw]; exact (by repeat (first | (with_reducible first | exact HB.out | apply below_alloc | apply pw_below_drewN | apply below_drew1 | refine below_set ?_ GE669.out | refine below_set ?_ GE670.out | refine below_set ?_ GE680.out | refine below_set ?_ GE686.out) | exact HB.out)))⟩; clear hw; clear HO_4; clear BK669; clear BK670; clear BK680; clear BK686; clear HB; have HO_4 := n0_; have BK669 := n1_; have BK670 := n2_; have BK680 := n3_; have BK686 := n4_; have HB := n5_; clear n0_ n1_ n2_ n3_ n4_ n5_; have hnb62 := NB680_669.out; have hnc62 := NB669_680.out; have hnb63 := NB680_670.out; have hnc63 := NB670_680.out; have hcz64_0 : w61.cell? ⟨gb680, 0, none⟩ = some (.int .i64 ((rd_T63 l0_1 x26_2).f0)) := (blk_cell BK680.out 0).trans rfl; have hcz64_1 : w61.cell? ⟨gb680, 1, none⟩ = some (.int .i64 ((rd_T63 l0_1 x26_2).f1)) := (blk_cell BK680.out 1).trans rfl; have hfz64_0 := blk_frozen BK680.out 0; have hfz64_1 := blk_frozen BK680.out 1; have hcz65_0 : w61.cell? ⟨gb686, 0, none⟩ = some (.int .i64 ((rd_T63 y681 x36_3).f0)) := (blk_cell BK686.out 0).trans rfl; have hcz65_1 : w61.cell? ⟨gb686, 1, none⟩ = some (.int .i64 ((rd_T63 y681 x36_3).f1)) := (blk_cell BK686.out 1).trans rfl; have hfz65_0 := blk_frozen BK686.out 0; have hfz65_1 := blk_frozen BK686.out 1; obtain ⟨Ao66, co66, eo66⟩ := Kd.R_slice HO_4.out; subst eo66) | ((with_reducible refine gate_callee (f := 63) rfl ?_); refine goesL_ (some 70) rfl rfl Try.func63 (by kernel_rfl) rfl #[.slice Ao66 x4_3.length co66, .int .i64 x26_2, .int .i64 x36_3] rfl (by (try simp only [List.map_toArray, List.map_cons, List.map_nil]); first | done | rfl | (simp only [List.length_drop, List.length_take]; rfl)) ?_; (with_reducible refine (impl_table_put.calls (fun k_ => some k_ = (.slice Ao66 x4_3.length co66 : Value).ownBlock) (.slice Ao66 x4_3.length co66) x4_3 x26_2 x36_3 t688 w _ ?side1 ?side2 A55.out).mono ?_); (case side1 => repeat (first | (with_reducible first | exact HB.out | apply below_alloc | apply pw_below_drewN | apply below_drew1 | refine below_set ?_ GE669.out | refine below_set ?_ GE670.out | refine below_set ?_ GE680.out | refine below_set ?_ GE686.out) | exact HB.out)); (case side2 => exact Kd.R_tight rfl HO_4.out); rintro e w67 ⟨rfl, hy0, hb, hkp⟩; refine ⟨_, rfl, ?_⟩; have n0_ := Aside0.mk (Kd.R_reok rfl hy0 (fun k_ e_ => HO_4.out.1 k_ e_)); have n1_ := Aside0.mk (blk_kept (by (with_reducible repeat (first | refine blk_drewN ?_ _ | refine blk_drew ?_ | refine blk_alloc ?_ _)); exact BK669.out) hkp (fun hs_ => (fun e_ => (Kd.R_ne HO_4.out BK669.out (by decide)) e_) hs_)); have n2_ := Aside0.mk (blk_kept (by (with_reducible repeat (first | refine blk_drewN ?_ _ | refine blk_drew ?_ | refine blk_alloc ?_ _)); exact BK670.out) hkp (fun hs_ => (fun e_ => (Kd.R_ne HO_4.out BK670.out (by decide)) e_) hs_)); have n3_ := Aside0.mk (blk_kept (by (with_reducible repeat (first | refine blk_drewN ?_ _ | refine blk_drew ?_ | refine blk_alloc ?_ _)); exact BK680.out) hkp (fun hs_ => (fun e_ => (Kd.R_ne HO_4.out BK680.out (by decide)) e_) hs_)); have n4_ := Aside0.mk (blk_kept (by (with_reducible repeat (first | refine blk_drewN ?_ _ | refine blk_drew ?_ | refine blk_alloc ?_ _)); exact BK686.out) hkp (fun hs_ => (fun e_ => (Kd.R_ne HO_4.out BK686.out (by decide)) e_) hs_)); have n5_ := Aside0.mk (hb); clear HO_4; clear BK669; clear BK670; clear BK680; clear BK686; clear HB; have HO_4 := n0_; have BK669 := n1_; have BK670 := n2_; have BK680 := n3_; have BK686 := n4_; have HB := n5_; clear n0_ n1_ n2_ n3_ n4_ n5_; (try clear hb); (try clear hkp); (try clear hy0)))
                   go_roundg k3
                   case measure => have := HJ1.out; have := HK2.out; have := HK3.out; omega
                   case rel => exact ⟨(t688), (wrap64 (x36_3 + 1)), (by first | rfl | (simp; done) | (simp [*]; done)), H', ⟨by have := HJ1.out; have := HK2.out; have := HK3.out; omega⟩, ⟨by (with_reducible repeat (first | apply Kd.R_alloc | apply Kd.R_drewN | apply Kd.R_drew)); exact HO_4.out⟩, ⟨by (with_reducible repeat (first | refine blk_drewN ?_ _ | refine blk_drew ?_ | refine blk_alloc ?_ _)); exact BK669.out⟩, ⟨by (with_reducible repeat (first | refine blk_drewN ?_ _ | refine blk_drew ?_ | refine blk_alloc ?_ _)); exact BK670.out⟩, ⟨by (with_reducible repeat (first | refine blk_drewN ?_ _ | refine blk_drew ?_ | refine blk_alloc ?_ _)); exact BK680.out⟩, ⟨by repeat (first | (with_reducible first | exact HB.out | apply below_alloc | apply pw_below_drewN | apply below_drew1 | refine below_set ?_ GE669.out | refine below_set ?_ GE670.out | refine below_set ?_ GE680.out | refine below_set ?_ GE686.out) | exact HB.out)⟩⟩
                  ·rw [if_neg c54] at H
                   have c54b0 : (((rd_T63 l0_1 x26_2).f0) == ((rd_T63 y681 x36_3).f1)) = false := beq_eq_false_iff_ne.mpr c54
                   have c54b1 : (((rd_T63 l0_1 x26_2).f0) != ((rd_T63 y681 x36_3).f1)) = true := bne_iff_ne.mpr c54
                   by_cases c68 : ((rd_T63 l0_1 x26_2).f1) = ((rd_T63 y681 x36_3).f0)
                   ·rw [if_pos c68] at H
                    have c68b0 : (((rd_T63 l0_1 x26_2).f1) == ((rd_T63 y681 x36_3).f0)) = true := beq_iff_eq.mpr c68
                    have c68b1 : (((rd_T63 l0_1 x26_2).f1) != ((rd_T63 y681 x36_3).f0)) = false := bne_eq_false_iff_eq.mpr c68
                    clear c68
                    replace H := Option.bind_eq_some_iff.mp H
                    obtain ⟨t689, A690, H⟩ := H
                    replace H : (impl_LinesOf.l1 k3 t689 x26_2 l0_1 (l0_1.length : Int) x26_2 y681 (y681.length : Int) (wrap64 (x36_3 + 1)) a0_0 l0_1 ((rd_T63 l0_1 x26_2).f0) ((rd_T63 l0_1 x26_2).f1)) = some (r1, r2, r3) := H
                    have A69 := Aside0.mk A690
                    clear A690
                    have H' := Aside0.mk H
                    clear H
                    have p685 : 0 ≤ (x36_3 : Int) := of_decide_eq_true (by first | (with_reducible assumption) | assumption)
                    have q685 : x36_3 < (y681.length : Int) := of_decide_eq_true (by first | (with_reducible assumption) | assumption)
                    obtain ⟨ad685, e685, hx685_0, hx685_1⟩ := at_T63 HR684.out x36_3 p685 q685
                    obtain rfl : ad679 = ad685 := (by injection e685)
                    replace hx685_0 := (HB.out.cell (World.block_lt_of_cell? w _ hx685_0)).trans hx685_0
                    replace hx685_1 := (HB.out.cell (World.block_lt_of_cell? w _ hx685_1)).trans hx685_1
                    replace p685 := eq_true p685
                    replace q685 := eq_true q685
                    go_wp2_with (first | ((with_reducible refine gate_dst (N := 8) rfl ?_); (try (refine gate_guard (by rfl) ?_; dsimp only)); refine box_event ?hg (N := 8) ?hd (cs := #[.int .i64 0, .int .i64 0]) (t := 63) ?hr ?_; (case hd => rfl); (case hg => rfl); (case hr => first | (go_simp; done) | (go_simp; rfl)); intro gb686 hg w70 hbox hb; have n0_ := Aside0.mk (Kd.R_below (by (with_reducible repeat (first | apply Kd.R_alloc | apply Kd.R_drewN | apply Kd.R_drew)); exact HO_4.out) hb); have n1_ := Aside0.mk (blk_below (g := gb669) (o := .cells #[.int .i64 a0_0, .slice (some ad679) l0_1.length c0_1] 30 (0, 0)) (by (with_reducible repeat (first | refine blk_drewN ?_ _ | refine blk_drew ?_ | refine blk_alloc ?_ _)); exact BK669.out) hb); have n2_ := Aside0.mk (blk_below (g := gb670) (o := .cells #[.int .i64 0, .slice none 0 0] 30 (0, 0)) (by (with_reducible repeat (first | refine blk_drewN ?_ _ | refine blk_drew ?_ | refine blk_alloc ?_ _)); exact BK670.out) hb); have n3_ := Aside0.mk (blk_below (g := gb680) (o := .cells #[.int .i64 ((rd_T63 l0_1 x26_2).f0), .int .i64 ((rd_T63 l0_1 x26_2).f1)] 63 (0, 0)) (by (with_reducible repeat (first | refine blk_drewN ?_ _ | refine blk_drew ?_ | refine blk_alloc ?_ _)); exact BK680.out) hb); have n4_ := Aside0.mk (below_step (by repeat (first | (with_reducible first | exact HB.out | apply below_alloc | apply pw_below_drewN | apply below_drew1 | refine below_set ?_ GE669.out | refine below_set ?_ GE670.out | refine below_set ?_ GE680.out) | exact HB.out)) hb); have n5_ := Aside0.mk (hbox); have n6_ := Aside0.mk ((by rw [hg]; exact (below_size (by repeat (first | (with_reducible first | exact HB.out | apply below_alloc | apply pw_below_drewN | apply below_drew1 | refine below_set ?_ GE669.out | refine below_set ?_ GE670.out | refine below_set ?_ GE680.out) | exact HB.out))) : w.heap.size ≤ gb686)); have n7_ := n6_; have n8_ := Aside0.mk ((by rw [hg]; exact Nat.ne_of_lt (blk_lt (g := gb669) (o := .cells #[.int .i64 a0_0, .slice (some ad679) l0_1.length c0_1] 30 (0, 0)) (by (with_reducible repeat (first | refine blk_drewN ?_ _ | refine blk_drew ?_ | refine blk_alloc ?_ _)); exact BK669.out)) : gb669 ≠ gb686)); have n9_ := Aside0.mk n8_.out.symm; have n10_ := Aside0.mk ((by rw [hg]; exact Nat.ne_of_lt (blk_lt (g := gb670) (o := .cells #[.int .i64 0, .slice none 0 0] 30 (0, 0)) (by (with_reducible repeat (first | refine blk_drewN ?_ _ | refine blk_drew ?_ | refine blk_alloc ?_ _)); exact BK670.out)) : gb670 ≠ gb686)); have n11_ := Aside0.mk n10_.out.symm; have n12_ := Aside0.mk ((by rw [hg]; exact Nat.ne_of_lt (blk_lt (g := gb680) (o := .cells #[.int .i64 ((rd_T63 l0_1 x26_2).f0), .int .i64 ((rd_T63 l0_1 x26_2).f1)] 63 (0, 0)) (by (with_reducible repeat (first | refine blk_drewN ?_ _ | refine blk_drew ?_ | refine blk_alloc ?_ _)); exact BK680.out)) : gb680 ≠ gb686)); have n13_ := Aside0.mk n12_.out.symm; clear HO_4; clear BK669; clear BK670; clear BK680; clear HB; have HO_4 := n0_; have BK669 := n1_; have BK670 := n2_; have BK680 := n3_; have HB := n4_; have BK686 := n5_; have GW686 := n6_; have GE686 := n7_; have NB669_686 := n8_; have NB686_669 := n9_; have NB670_686 := n10_; have NB686_670 := n11_; have NB680_686 := n12_; have NB686_680 := n13_; clear n0_ n1_ n2_ n3_ n4_ n5_ n6_ n7_ n8_ n9_ n10_ n11_ n12_ n13_; clear hb hbox hg; have hnb71 := NB686_669.out; have hnc71 := NB669_686.out; have hnb72 := NB686_670.out; have hnc72 := NB670_686.out; have hnb73 := NB686_680.out; have hnc73 := NB680_686.out; have hcz74_0 : w70.cell? ⟨gb686, 0, none⟩ = some (.int .i64 0) := (blk_cell BK686.out 0).trans rfl; have hcz74_1 : w70.cell? ⟨gb686, 1, none⟩ = some (.int .i64 0) := (blk_cell BK686.out 1).trans rfl; have hfz74_0 := blk_frozen BK686.out 0; have hfz74_1 := blk_frozen BK686.out 1) | ((with_reducible refine gate_store (t := 63) (p := 8) rfl ?_); refine store_event (t := 63) (p := 8) (v := ?vo_w75) (w1 := ((w70.setCell ⟨gb686, 0, none⟩ (.int .i64 ((rd_T63 y681 x36_3).f0))).setCell ⟨gb686, 1, none⟩ (.int .i64 ((rd_T63 y681 x36_3).f1)))) ?hg ?ho ?hn ?hr ?_; (case ho => rfl); (case hg => rfl); (case hn => rfl); (case hr => first | (go_simp; done) | (go_simp; rfl)); intro w75 hw; have n0_ : Aside0 (Kd.R (Kd.int .u16) 69 w75 w.heap.size (fun _ => True) v673 x4_3) := ⟨(by rw [hw]; exact (by (with_reducible repeat (first | apply Kd.R_alloc | apply Kd.R_drewN | apply Kd.R_drew)); exact Kd.R_mono (Kd.R_far (p := ⟨gb686, 1, none⟩) (Kd.R_far (p := ⟨gb686, 0, none⟩) (Kd.R_types HO_4.out BK686.out (by decide)) (fun _ hk => hk.2) (.int .i64 ((rd_T63 y681 x36_3).f0))) (fun _ hk => hk.2) (.int .i64 ((rd_T63 y681 x36_3).f1))) (fun _ hk => trivial)))⟩; have n1_ : Aside0 (w75.heap[gb669]? = some (.cells #[.int .i64 a0_0, .slice (some ad679) l0_1.length c0_1] 30 (0, 0))) := ⟨(by rw [hw]; exact (by (with_reducible repeat (first | refine blk_drewN ?_ _ | refine blk_drew ?_ | refine blk_alloc ?_ _)); refine blk_far ?_ NB669_686.out _; (with_reducible repeat (first | refine blk_drewN ?_ _ | refine blk_drew ?_ | refine blk_alloc ?_ _)); refine blk_far ?_ NB669_686.out _; (with_reducible repeat (first | refine blk_drewN ?_ _ | refine blk_drew ?_ | refine blk_alloc ?_ _)); exact BK669.out))⟩; have n2_ : Aside0 (w75.heap[gb670]? = some (.cells #[.int .i64 0, .slice none 0 0] 30 (0, 0))) := ⟨(by rw [hw]; exact (by (with_reducible repeat (first | refine blk_drewN ?_ _ | refine blk_drew ?_ | refine blk_alloc ?_ _)); refine blk_far ?_ NB670_686.out _; (with_reducible repeat (first | refine blk_drewN ?_ _ | refine blk_drew ?_ | refine blk_alloc ?_ _)); refine blk_far ?_ NB670_686.out _; (with_reducible repeat (first | refine blk_drewN ?_ _ | refine blk_drew ?_ | refine blk_alloc ?_ _)); exact BK670.out))⟩; have n3_ : Aside0 (w75.heap[gb680]? = some (.cells #[.int .i64 ((rd_T63 l0_1 x26_2).f0), .int .i64 ((rd_T63 l0_1 x26_2).f1)] 63 (0, 0))) := ⟨(by rw [hw]; exact (by (with_reducible repeat (first | refine blk_drewN ?_ _ | refine blk_drew ?_ | refine blk_alloc ?_ _)); refine blk_far ?_ NB680_686.out _; (with_reducible repeat (first | refine blk_drewN ?_ _ | refine blk_drew ?_ | refine blk_alloc ?_ _)); refine blk_far ?_ NB680_686.out _; (with_reducible repeat (first | refine blk_drewN ?_ _ | refine blk_drew ?_ | refine blk_alloc ?_ _)); exact BK680.out))⟩; have n4_ : Aside0 (w75.heap[gb686]? = some (.cells #[.int .i64 ((rd_T63 y681 x36_3).f0), .int .i64 ((rd_T63 y681 x36_3).f1)] 63 (0, 0))) := ⟨(by rw [hw]; exact (by (with_reducible repeat (first | refine blk_drewN ?_ _ | refine blk_drew ?_ | refine blk_alloc ?_ _)); refine blk_put (cs := #[.int .i64 ((rd_T63 y681 x36_3).f0), .int .i64 0]) ?_ 1 _ rfl; (with_reducible repeat (first | refine blk_drewN ?_ _ | refine blk_drew ?_ | refine blk_alloc ?_ _)); refine blk_put (cs := #[.int .i64 0, .int .i64 0]) ?_ 0 _ rfl; (with_reducible repeat (first | refine blk_drewN ?_ _ | refine blk_drew ?_ | refine blk_alloc ?_ _)); exact BK686.out))⟩; have n5_ : Aside0 (Below w.heap.size w w75) := ⟨(by rw [hw]; exact (by repeat (first | (with_reducible first | exact HB.out | apply below_alloc | apply pw_below_drewN | apply below_drew1 | refine below_set ?_ GE669.out | refine below_set ?_ GE670.out | refine below_set ?_ GE680.out | refine below_set ?_ GE686.out) | exact HB.out)))⟩; clear hw; clear HO_4; clear BK669; clear BK670; clear BK680; clear BK686; clear HB; have HO_4 := n0_; have BK669 := n1_; have BK670 := n2_; have BK680 := n3_; have BK686 := n4_; have HB := n5_; clear n0_ n1_ n2_ n3_ n4_ n5_; have hnb76 := NB680_669.out; have hnc76 := NB669_680.out; have hnb77 := NB680_670.out; have hnc77 := NB670_680.out; have hcz78_0 : w75.cell? ⟨gb680, 0, none⟩ = some (.int .i64 ((rd_T63 l0_1 x26_2).f0)) := (blk_cell BK680.out 0).trans rfl; have hcz78_1 : w75.cell? ⟨gb680, 1, none⟩ = some (.int .i64 ((rd_T63 l0_1 x26_2).f1)) := (blk_cell BK680.out 1).trans rfl; have hfz78_0 := blk_frozen BK680.out 0; have hfz78_1 := blk_frozen BK680.out 1; have hcz79_0 : w75.cell? ⟨gb686, 0, none⟩ = some (.int .i64 ((rd_T63 y681 x36_3).f0)) := (blk_cell BK686.out 0).trans rfl; have hcz79_1 : w75.cell? ⟨gb686, 1, none⟩ = some (.int .i64 ((rd_T63 y681 x36_3).f1)) := (blk_cell BK686.out 1).trans rfl; have hfz79_0 := blk_frozen BK686.out 0; have hfz79_1 := blk_frozen BK686.out 1; obtain ⟨Ao80, co80, eo80⟩ := Kd.R_slice HO_4.out; subst eo80) | ((with_reducible refine gate_callee (f := 63) rfl ?_); refine goesL_ (some 70) rfl rfl Try.func63 (by kernel_rfl) rfl #[.slice Ao80 x4_3.length co80, .int .i64 x26_2, .int .i64 x36_3] rfl (by (try simp only [List.map_toArray, List.map_cons, List.map_nil]); first | done | rfl | (simp only [List.length_drop, List.length_take]; rfl)) ?_; (with_reducible refine (impl_table_put.calls (fun k_ => some k_ = (.slice Ao80 x4_3.length co80 : Value).ownBlock) (.slice Ao80 x4_3.length co80) x4_3 x26_2 x36_3 t689 w _ ?side1 ?side2 A69.out).mono ?_); (case side1 => repeat (first | (with_reducible first | exact HB.out | apply below_alloc | apply pw_below_drewN | apply below_drew1 | refine below_set ?_ GE669.out | refine below_set ?_ GE670.out | refine below_set ?_ GE680.out | refine below_set ?_ GE686.out) | exact HB.out)); (case side2 => exact Kd.R_tight rfl HO_4.out); rintro e w81 ⟨rfl, hy0, hb, hkp⟩; refine ⟨_, rfl, ?_⟩; have n0_ := Aside0.mk (Kd.R_reok rfl hy0 (fun k_ e_ => HO_4.out.1 k_ e_)); have n1_ := Aside0.mk (blk_kept (by (with_reducible repeat (first | refine blk_drewN ?_ _ | refine blk_drew ?_ | refine blk_alloc ?_ _)); exact BK669.out) hkp (fun hs_ => (fun e_ => (Kd.R_ne HO_4.out BK669.out (by decide)) e_) hs_)); have n2_ := Aside0.mk (blk_kept (by (with_reducible repeat (first | refine blk_drewN ?_ _ | refine blk_drew ?_ | refine blk_alloc ?_ _)); exact BK670.out) hkp (fun hs_ => (fun e_ => (Kd.R_ne HO_4.out BK670.out (by decide)) e_) hs_)); have n3_ := Aside0.mk (blk_kept (by (with_reducible repeat (first | refine blk_drewN ?_ _ | refine blk_drew ?_ | refine blk_alloc ?_ _)); exact BK680.out) hkp (fun hs_ => (fun e_ => (Kd.R_ne HO_4.out BK680.out (by decide)) e_) hs_)); have n4_ := Aside0.mk (blk_kept (by (with_reducible repeat (first | refine blk_drewN ?_ _ | refine blk_drew ?_ | refine blk_alloc ?_ _)); exact BK686.out) hkp (fun hs_ => (fun e_ => (Kd.R_ne HO_4.out BK686.out (by decide)) e_) hs_)); have n5_ := Aside0.mk (hb); clear HO_4; clear BK669; clear BK670; clear BK680; clear BK686; clear HB; have HO_4 := n0_; have BK669 := n1_; have BK670 := n2_; have BK680 := n3_; have BK686 := n4_; have HB := n5_; clear n0_ n1_ n2_ n3_ n4_ n5_; (try clear hb); (try clear hkp); (try clear hy0)))
                    go_roundg k3
                    case measure => have := HJ1.out; have := HK2.out; have := HK3.out; omega
                    case rel => exact ⟨(t689), (wrap64 (x36_3 + 1)), (by first | rfl | (simp; done) | (simp [*]; done)), H', ⟨by have := HJ1.out; have := HK2.out; have := HK3.out; omega⟩, ⟨by (with_reducible repeat (first | apply Kd.R_alloc | apply Kd.R_drewN | apply Kd.R_drew)); exact HO_4.out⟩, ⟨by (with_reducible repeat (first | refine blk_drewN ?_ _ | refine blk_drew ?_ | refine blk_alloc ?_ _)); exact BK669.out⟩, ⟨by (with_reducible repeat (first | refine blk_drewN ?_ _ | refine blk_drew ?_ | refine blk_alloc ?_ _)); exact BK670.out⟩, ⟨by (with_reducible repeat (first | refine blk_drewN ?_ _ | refine blk_drew ?_ | refine blk_alloc ?_ _)); exact BK680.out⟩, ⟨by repeat (first | (with_reducible first | exact HB.out | apply below_alloc | apply pw_below_drewN | apply below_drew1 | refine below_set ?_ GE669.out | refine below_set ?_ GE670.out | refine below_set ?_ GE680.out | refine below_set ?_ GE686.out) | exact HB.out)⟩⟩
                   ·rw [if_neg c68] at H
                    have c68b0 : (((rd_T63 l0_1 x26_2).f1) == ((rd_T63 y681 x36_3).f0)) = false := beq_eq_false_iff_ne.mpr c68
                    have c68b1 : (((rd_T63 l0_1 x26_2).f1) != ((rd_T63 y681 x36_3).f0)) = true := bne_iff_ne.mpr c68
                    by_cases c82 : ((rd_T63 l0_1 x26_2).f1) = ((rd_T63 y681 x36_3).f1)
                    ·rw [if_pos c82] at H
                     have c82b0 : (((rd_T63 l0_1 x26_2).f1) == ((rd_T63 y681 x36_3).f1)) = true := beq_iff_eq.mpr c82
                     have c82b1 : (((rd_T63 l0_1 x26_2).f1) != ((rd_T63 y681 x36_3).f1)) = false := bne_eq_false_iff_eq.mpr c82
                     clear c82
                     replace H := Option.bind_eq_some_iff.mp H
                     obtain ⟨t690, A830, H⟩ := H
                     replace H : (impl_LinesOf.l1 k3 t690 x26_2 l0_1 (l0_1.length : Int) x26_2 y681 (y681.length : Int) (wrap64 (x36_3 + 1)) a0_0 l0_1 ((rd_T63 l0_1 x26_2).f0) ((rd_T63 l0_1 x26_2).f1)) = some (r1, r2, r3) := H
                     have A83 := Aside0.mk A830
                     clear A830
                     have H' := Aside0.mk H
                     clear H
                     have p685 : 0 ≤ (x36_3 : Int) := of_decide_eq_true (by first | (with_reducible assumption) | assumption)
                     have q685 : x36_3 < (y681.length : Int) := of_decide_eq_true (by first | (with_reducible assumption) | assumption)
                     obtain ⟨ad685, e685, hx685_0, hx685_1⟩ := at_T63 HR684.out x36_3 p685 q685
                     obtain rfl : ad679 = ad685 := (by injection e685)
                     replace hx685_0 := (HB.out.cell (World.block_lt_of_cell? w _ hx685_0)).trans hx685_0
                     replace hx685_1 := (HB.out.cell (World.block_lt_of_cell? w _ hx685_1)).trans hx685_1
                     replace p685 := eq_true p685
                     replace q685 := eq_true q685
                     go_wp2_with (first | ((with_reducible refine gate_dst (N := 8) rfl ?_); (try (refine gate_guard (by rfl) ?_; dsimp only)); refine box_event ?hg (N := 8) ?hd (cs := #[.int .i64 0, .int .i64 0]) (t := 63) ?hr ?_; (case hd => rfl); (case hg => rfl); (case hr => first | (go_simp; done) | (go_simp; rfl)); intro gb686 hg w84 hbox hb; have n0_ := Aside0.mk (Kd.R_below (by (with_reducible repeat (first | apply Kd.R_alloc | apply Kd.R_drewN | apply Kd.R_drew)); exact HO_4.out) hb); have n1_ := Aside0.mk (blk_below (g := gb669) (o := .cells #[.int .i64 a0_0, .slice (some ad679) l0_1.length c0_1] 30 (0, 0)) (by (with_reducible repeat (first | refine blk_drewN ?_ _ | refine blk_drew ?_ | refine blk_alloc ?_ _)); exact BK669.out) hb); have n2_ := Aside0.mk (blk_below (g := gb670) (o := .cells #[.int .i64 0, .slice none 0 0] 30 (0, 0)) (by (with_reducible repeat (first | refine blk_drewN ?_ _ | refine blk_drew ?_ | refine blk_alloc ?_ _)); exact BK670.out) hb); have n3_ := Aside0.mk (blk_below (g := gb680) (o := .cells #[.int .i64 ((rd_T63 l0_1 x26_2).f0), .int .i64 ((rd_T63 l0_1 x26_2).f1)] 63 (0, 0)) (by (with_reducible repeat (first | refine blk_drewN ?_ _ | refine blk_drew ?_ | refine blk_alloc ?_ _)); exact BK680.out) hb); have n4_ := Aside0.mk (below_step (by repeat (first | (with_reducible first | exact HB.out | apply below_alloc | apply pw_below_drewN | apply below_drew1 | refine below_set ?_ GE669.out | refine below_set ?_ GE670.out | refine below_set ?_ GE680.out) | exact HB.out)) hb); have n5_ := Aside0.mk (hbox); have n6_ := Aside0.mk ((by rw [hg]; exact (below_size (by repeat (first | (with_reducible first | exact HB.out | apply below_alloc | apply pw_below_drewN | apply below_drew1 | refine below_set ?_ GE669.out | refine below_set ?_ GE670.out | refine below_set ?_ GE680.out) | exact HB.out))) : w.heap.size ≤ gb686)); have n7_ := n6_; have n8_ := Aside0.mk ((by rw [hg]; exact Nat.ne_of_lt (blk_lt (g := gb669) (o := .cells #[.int .i64 a0_0, .slice (some ad679) l0_1.length c0_1] 30 (0, 0)) (by (with_reducible repeat (first | refine blk_drewN ?_ _ | refine blk_drew ?_ | refine blk_alloc ?_ _)); exact BK669.out)) : gb669 ≠ gb686)); have n9_ := Aside0.mk n8_.out.symm; have n10_ := Aside0.mk ((by rw [hg]; exact Nat.ne_of_lt (blk_lt (g := gb670) (o := .cells #[.int .i64 0, .slice none 0 0] 30 (0, 0)) (by (with_reducible repeat (first | refine blk_drewN ?_ _ | refine blk_drew ?_ | refine blk_alloc ?_ _)); exact BK670.out)) : gb670 ≠ gb686)); have n11_ := Aside0.mk n10_.out.symm; have n12_ := Aside0.mk ((by rw [hg]; exact Nat.ne_of_lt (blk_lt (g := gb680) (o := .cells #[.int .i64 ((rd_T63 l0_1 x26_2).f0), .int .i64 ((rd_T63 l0_1 x26_2).f1)] 63 (0, 0)) (by (with_reducible repeat (first | refine blk_drewN ?_ _ | refine blk_drew ?_ | refine blk_alloc ?_ _)); exact BK680.out)) : gb680 ≠ gb686)); have n13_ := Aside0.mk n12_.out.symm; clear HO_4; clear BK669; clear BK670; clear BK680; clear HB; have HO_4 := n0_; have BK669 := n1_; have BK670 := n2_; have BK680 := n3_; have HB := n4_; have BK686 := n5_; have GW686 := n6_; have GE686 := n7_; have NB669_686 := n8_; have NB686_669 := n9_; have NB670_686 := n10_; have NB686_670 := n11_; have NB680_686 := n12_; have NB686_680 := n13_; clear n0_ n1_ n2_ n3_ n4_ n5_ n6_ n7_ n8_ n9_ n10_ n11_ n12_ n13_; clear hb hbox hg; have hnb85 := NB686_669.out; have hnc85 := NB669_686.out; have hnb86 := NB686_670.out; have hnc86 := NB670_686.out; have hnb87 := NB686_680.out; have hnc87 := NB680_686.out; have hcz88_0 : w84.cell? ⟨gb686, 0, none⟩ = some (.int .i64 0) := (blk_cell BK686.out 0).trans rfl; have hcz88_1 : w84.cell? ⟨gb686, 1, none⟩ = some (.int .i64 0) := (blk_cell BK686.out 1).trans rfl; have hfz88_0 := blk_frozen BK686.out 0; have hfz88_1 := blk_frozen BK686.out 1) | ((with_reducible refine gate_store (t := 63) (p := 8) rfl ?_); refine store_event (t := 63) (p := 8) (v := ?vo_w89) (w1 := ((w84.setCell ⟨gb686, 0, none⟩ (.int .i64 ((rd_T63 y681 x36_3).f0))).setCell ⟨gb686, 1, none⟩ (.int .i64 ((rd_T63 y681 x36_3).f1)))) ?hg ?ho ?hn ?hr ?_; (case ho => rfl); (case hg => rfl); (case hn => rfl); (case hr => first | (go_simp; done) | (go_simp; rfl)); intro w89 hw; have n0_ : Aside0 (Kd.R (Kd.int .u16) 69 w89 w.heap.size (fun _ => True) v673 x4_3) := ⟨(by rw [hw]; exact (by (with_reducible repeat (first | apply Kd.R_alloc | apply Kd.R_drewN | apply Kd.R_drew)); exact Kd.R_mono (Kd.R_far (p := ⟨gb686, 1, none⟩) (Kd.R_far (p := ⟨gb686, 0, none⟩) (Kd.R_types HO_4.out BK686.out (by decide)) (fun _ hk => hk.2) (.int .i64 ((rd_T63 y681 x36_3).f0))) (fun _ hk => hk.2) (.int .i64 ((rd_T63 y681 x36_3).f1))) (fun _ hk => trivial)))⟩; have n1_ : Aside0 (w89.heap[gb669]? = some (.cells #[.int .i64 a0_0, .slice (some ad679) l0_1.length c0_1] 30 (0, 0))) := ⟨(by rw [hw]; exact (by (with_reducible repeat (first | refine blk_drewN ?_ _ | refine blk_drew ?_ | refine blk_alloc ?_ _)); refine blk_far ?_ NB669_686.out _; (with_reducible repeat (first | refine blk_drewN ?_ _ | refine blk_drew ?_ | refine blk_alloc ?_ _)); refine blk_far ?_ NB669_686.out _; (with_reducible repeat (first | refine blk_drewN ?_ _ | refine blk_drew ?_ | refine blk_alloc ?_ _)); exact BK669.out))⟩; have n2_ : Aside0 (w89.heap[gb670]? = some (.cells #[.int .i64 0, .slice none 0 0] 30 (0, 0))) := ⟨(by rw [hw]; exact (by (with_reducible repeat (first | refine blk_drewN ?_ _ | refine blk_drew ?_ | refine blk_alloc ?_ _)); refine blk_far ?_ NB670_686.out _; (with_reducible repeat (first | refine blk_drewN ?_ _ | refine blk_drew ?_ | refine blk_alloc ?_ _)); refine blk_far ?_ NB670_686.out _; (with_reducible repeat (first | refine blk_drewN ?_ _ | refine blk_drew ?_ | refine blk_alloc ?_ _)); exact BK670.out))⟩; have n3_ : Aside0 (w89.heap[gb680]? = some (.cells #[.int .i64 ((rd_T63 l0_1 x26_2).f0), .int .i64 ((rd_T63 l0_1 x26_2).f1)] 63 (0, 0))) := ⟨(by rw [hw]; exact (by (with_reducible repeat (first | refine blk_drewN ?_ _ | refine blk_drew ?_ | refine blk_alloc ?_ _)); refine blk_far ?_ NB680_686.out _; (with_reducible repeat (first | refine blk_drewN ?_ _ | refine blk_drew ?_ | refine blk_alloc ?_ _)); refine blk_far ?_ NB680_686.out _; (with_reducible repeat (first | refine blk_drewN ?_ _ | refine blk_drew ?_ | refine blk_alloc ?_ _)); exact BK680.out))⟩; have n4_ : Aside0 (w89.heap[gb686]? = some (.cells #[.int .i64 ((rd_T63 y681 x36_3).f0), .int .i64 ((rd_T63 y681 x36_3).f1)] 63 (0, 0))) := ⟨(by rw [hw]; exact (by (with_reducible repeat (first | refine blk_drewN ?_ _ | refine blk_drew ?_ | refine blk_alloc ?_ _)); refine blk_put (cs := #[.int .i64 ((rd_T63 y681 x36_3).f0), .int .i64 0]) ?_ 1 _ rfl; (with_reducible repeat (first | refine blk_drewN ?_ _ | refine blk_drew ?_ | refine blk_alloc ?_ _)); refine blk_put (cs := #[.int .i64 0, .int .i64 0]) ?_ 0 _ rfl; (with_reducible repeat (first | refine blk_drewN ?_ _ | refine blk_drew ?_ | refine blk_alloc ?_ _)); exact BK686.out))⟩; have n5_ : Aside0 (Below w.heap.size w w89) := ⟨(by rw [hw]; exact (by repeat (first | (with_reducible first | exact HB.out | apply below_alloc | apply pw_below_drewN | apply below_drew1 | refine below_set ?_ GE669.out | refine below_set ?_ GE670.out | refine below_set ?_ GE680.out | refine below_set ?_ GE686.out) | exact HB.out)))⟩; clear hw; clear HO_4; clear BK669; clear BK670; clear BK680; clear BK686; clear HB; have HO_4 := n0_; have BK669 := n1_; have BK670 := n2_; have BK680 := n3_; have BK686 := n4_; have HB := n5_; clear n0_ n1_ n2_ n3_ n4_ n5_; have hnb90 := NB680_669.out; have hnc90 := NB669_680.out; have hnb91 := NB680_670.out; have hnc91 := NB670_680.out; have hcz92_0 : w89.cell? ⟨gb680, 0, none⟩ = some (.int .i64 ((rd_T63 l0_1 x26_2).f0)) := (blk_cell BK680.out 0).trans rfl; have hcz92_1 : w89.cell? ⟨gb680, 1, none⟩ = some (.int .i64 ((rd_T63 l0_1 x26_2).f1)) := (blk_cell BK680.out 1).trans rfl; have hfz92_0 := blk_frozen BK680.out 0; have hfz92_1 := blk_frozen BK680.out 1; have hcz93_0 : w89.cell? ⟨gb686, 0, none⟩ = some (.int .i64 ((rd_T63 y681 x36_3).f0)) := (blk_cell BK686.out 0).trans rfl; have hcz93_1 : w89.cell? ⟨gb686, 1, none⟩ = some (.int .i64 ((rd_T63 y681 x36_3).f1)) := (blk_cell BK686.out 1).trans rfl; have hfz93_0 := blk_frozen BK686.out 0; have hfz93_1 := blk_frozen BK686.out 1; obtain ⟨Ao94, co94, eo94⟩ := Kd.R_slice HO_4.out; subst eo94) | ((with_reducible refine gate_callee (f := 63) rfl ?_); refine goesL_ (some 70) rfl rfl Try.func63 (by kernel_rfl) rfl #[.slice Ao94 x4_3.length co94, .int .i64 x26_2, .int .i64 x36_3] rfl (by (try simp only [List.map_toArray, List.map_cons, List.map_nil]); first | done | rfl | (simp only [List.length_drop, List.length_take]; rfl)) ?_; (with_reducible refine (impl_table_put.calls (fun k_ => some k_ = (.slice Ao94 x4_3.length co94 : Value).ownBlock) (.slice Ao94 x4_3.length co94) x4_3 x26_2 x36_3 t690 w _ ?side1 ?side2 A83.out).mono ?_); (case side1 => repeat (first | (with_reducible first | exact HB.out | apply below_alloc | apply pw_below_drewN | apply below_drew1 | refine below_set ?_ GE669.out | refine below_set ?_ GE670.out | refine below_set ?_ GE680.out | refine below_set ?_ GE686.out) | exact HB.out)); (case side2 => exact Kd.R_tight rfl HO_4.out); rintro e w95 ⟨rfl, hy0, hb, hkp⟩; refine ⟨_, rfl, ?_⟩; have n0_ := Aside0.mk (Kd.R_reok rfl hy0 (fun k_ e_ => HO_4.out.1 k_ e_)); have n1_ := Aside0.mk (blk_kept (by (with_reducible repeat (first | refine blk_drewN ?_ _ | refine blk_drew ?_ | refine blk_alloc ?_ _)); exact BK669.out) hkp (fun hs_ => (fun e_ => (Kd.R_ne HO_4.out BK669.out (by decide)) e_) hs_)); have n2_ := Aside0.mk (blk_kept (by (with_reducible repeat (first | refine blk_drewN ?_ _ | refine blk_drew ?_ | refine blk_alloc ?_ _)); exact BK670.out) hkp (fun hs_ => (fun e_ => (Kd.R_ne HO_4.out BK670.out (by decide)) e_) hs_)); have n3_ := Aside0.mk (blk_kept (by (with_reducible repeat (first | refine blk_drewN ?_ _ | refine blk_drew ?_ | refine blk_alloc ?_ _)); exact BK680.out) hkp (fun hs_ => (fun e_ => (Kd.R_ne HO_4.out BK680.out (by decide)) e_) hs_)); have n4_ := Aside0.mk (blk_kept (by (with_reducible repeat (first | refine blk_drewN ?_ _ | refine blk_drew ?_ | refine blk_alloc ?_ _)); exact BK686.out) hkp (fun hs_ => (fun e_ => (Kd.R_ne HO_4.out BK686.out (by decide)) e_) hs_)); have n5_ := Aside0.mk (hb); clear HO_4; clear BK669; clear BK670; clear BK680; clear BK686; clear HB; have HO_4 := n0_; have BK669 := n1_; have BK670 := n2_; have BK680 := n3_; have BK686 := n4_; have HB := n5_; clear n0_ n1_ n2_ n3_ n4_ n5_; (try clear hb); (try clear hkp); (try clear hy0)))
                     go_roundg k3
                     case measure => have := HJ1.out; have := HK2.out; have := HK3.out; omega
                     case rel => exact ⟨(t690), (wrap64 (x36_3 + 1)), (by first | rfl | (simp; done) | (simp [*]; done)), H', ⟨by have := HJ1.out; have := HK2.out; have := HK3.out; omega⟩, ⟨by (with_reducible repeat (first | apply Kd.R_alloc | apply Kd.R_drewN | apply Kd.R_drew)); exact HO_4.out⟩, ⟨by (with_reducible repeat (first | refine blk_drewN ?_ _ | refine blk_drew ?_ | refine blk_alloc ?_ _)); exact BK669.out⟩, ⟨by (with_reducible repeat (first | refine blk_drewN ?_ _ | refine blk_drew ?_ | refine blk_alloc ?_ _)); exact BK670.out⟩, ⟨by (with_reducible repeat (first | refine blk_drewN ?_ _ | refine blk_drew ?_ | refine blk_alloc ?_ _)); exact BK680.out⟩, ⟨by repeat (first | (with_reducible first | exact HB.out | apply below_alloc | apply pw_below_drewN | apply below_drew1 | refine below_set ?_ GE669.out | refine below_set ?_ GE670.out | refine below_set ?_ GE680.out | refine below_set ?_ GE686.out) | exact HB.out)⟩⟩
                    ·rw [if_neg c82] at H
                     have c82b0 : (((rd_T63 l0_1 x26_2).f1) == ((rd_T63 y681 x36_3).f1)) = false := beq_eq_false_iff_ne.mpr c82
                     have c82b1 : (((rd_T63 l0_1 x26_2).f1) != ((rd_T63 y681 x36_3).f1)) = true := bne_iff_ne.mpr c82
                     have H' := Aside0.mk H
                     clear H
                     have p685 : 0 ≤ (x36_3 : Int) := of_decide_eq_true (by first | (with_reducible assumption) | assumption)
                     have q685 : x36_3 < (y681.length : Int) := of_decide_eq_true (by first | (with_reducible assumption) | assumption)
                     obtain ⟨ad685, e685, hx685_0, hx685_1⟩ := at_T63 HR684.out x36_3 p685 q685
                     obtain rfl : ad679 = ad685 := (by injection e685)
                     replace hx685_0 := (HB.out.cell (World.block_lt_of_cell? w _ hx685_0)).trans hx685_0
                     replace hx685_1 := (HB.out.cell (World.block_lt_of_cell? w _ hx685_1)).trans hx685_1
                     replace p685 := eq_true p685
                     replace q685 := eq_true q685
                     go_wp2_with (first | ((with_reducible refine gate_dst (N := 8) rfl ?_); (try (refine gate_guard (by rfl) ?_; dsimp only)); refine box_event ?hg (N := 8) ?hd (cs := #[.int .i64 0, .int .i64 0]) (t := 63) ?hr ?_; (case hd => rfl); (case hg => rfl); (case hr => first | (go_simp; done) | (go_simp; rfl)); intro gb686 hg w96 hbox hb; have n0_ := Aside0.mk (Kd.R_below (by (with_reducible repeat (first | apply Kd.R_alloc | apply Kd.R_drewN | apply Kd.R_drew)); exact HO_4.out) hb); have n1_ := Aside0.mk (blk_below (g := gb669) (o := .cells #[.int .i64 a0_0, .slice (some ad679) l0_1.length c0_1] 30 (0, 0)) (by (with_reducible repeat (first | refine blk_drewN ?_ _ | refine blk_drew ?_ | refine blk_alloc ?_ _)); exact BK669.out) hb); have n2_ := Aside0.mk (blk_below (g := gb670) (o := .cells #[.int .i64 0, .slice none 0 0] 30 (0, 0)) (by (with_reducible repeat (first | refine blk_drewN ?_ _ | refine blk_drew ?_ | refine blk_alloc ?_ _)); exact BK670.out) hb); have n3_ := Aside0.mk (blk_below (g := gb680) (o := .cells #[.int .i64 ((rd_T63 l0_1 x26_2).f0), .int .i64 ((rd_T63 l0_1 x26_2).f1)] 63 (0, 0)) (by (with_reducible repeat (first | refine blk_drewN ?_ _ | refine blk_drew ?_ | refine blk_alloc ?_ _)); exact BK680.out) hb); have n4_ := Aside0.mk (below_step (by repeat (first | (with_reducible first | exact HB.out | apply below_alloc | apply pw_below_drewN | apply below_drew1 | refine below_set ?_ GE669.out | refine below_set ?_ GE670.out | refine below_set ?_ GE680.out) | exact HB.out)) hb); have n5_ := Aside0.mk (hbox); have n6_ := Aside0.mk ((by rw [hg]; exact (below_size (by repeat (first | (with_reducible first | exact HB.out | apply below_alloc | apply pw_below_drewN | apply below_drew1 | refine below_set ?_ GE669.out | refine below_set ?_ GE670.out | refine below_set ?_ GE680.out) | exact HB.out))) : w.heap.size ≤ gb686)); have n7_ := n6_; have n8_ := Aside0.mk ((by rw [hg]; exact Nat.ne_of_lt (blk_lt (g := gb669) (o := .cells #[.int .i64 a0_0, .slice (some ad679) l0_1.length c0_1] 30 (0, 0)) (by (with_reducible repeat (first | refine blk_drewN ?_ _ | refine blk_drew ?_ | refine blk_alloc ?_ _)); exact BK669.out)) : gb669 ≠ gb686)); have n9_ := Aside0.mk n8_.out.symm; have n10_ := Aside0.mk ((by rw [hg]; exact Nat.ne_of_lt (blk_lt (g := gb670) (o := .cells #[.int .i64 0, .slice none 0 0] 30 (0, 0)) (by (with_reducible repeat (first | refine blk_drewN ?_ _ | refine blk_drew ?_ | refine blk_alloc ?_ _)); exact BK670.out)) : gb670 ≠ gb686)); have n11_ := Aside0.mk n10_.out.symm; have n12_ := Aside0.mk ((by rw [hg]; exact Nat.ne_of_lt (blk_lt (g := gb680) (o := .cells #[.int .i64 ((rd_T63 l0_1 x26_2).f0), .int .i64 ((rd_T63 l0_1 x26_2).f1)] 63 (0, 0)) (by (with_reducible repeat (first | refine blk_drewN ?_ _ | refine blk_drew ?_ | refine blk_alloc ?_ _)); exact BK680.out)) : gb680 ≠ gb686)); have n13_ := Aside0.mk n12_.out.symm; clear HO_4; clear BK669; clear BK670; clear BK680; clear HB; have HO_4 := n0_; have BK669 := n1_; have BK670 := n2_; have BK680 := n3_; have HB := n4_; have BK686 := n5_; have GW686 := n6_; have GE686 := n7_; have NB669_686 := n8_; have NB686_669 := n9_; have NB670_686 := n10_; have NB686_670 := n11_; have NB680_686 := n12_; have NB686_680 := n13_; clear n0_ n1_ n2_ n3_ n4_ n5_ n6_ n7_ n8_ n9_ n10_ n11_ n12_ n13_; clear hb hbox hg; have hnb97 := NB686_669.out; have hnc97 := NB669_686.out; have hnb98 := NB686_670.out; have hnc98 := NB670_686.out; have hnb99 := NB686_680.out; have hnc99 := NB680_686.out; have hcz100_0 : w96.cell? ⟨gb686, 0, none⟩ = some (.int .i64 0) := (blk_cell BK686.out 0).trans rfl; have hcz100_1 : w96.cell? ⟨gb686, 1, none⟩ = some (.int .i64 0) := (blk_cell BK686.out 1).trans rfl; have hfz100_0 := blk_frozen BK686.out 0; have hfz100_1 := blk_frozen BK686.out 1; have hnb101 := NB680_669.out; have hnc101 := NB669_680.out; have hnb102 := NB680_670.out; have hnc102 := NB670_680.out; have hcz103_0 : w96.cell? ⟨gb680, 0, none⟩ = some (.int .i64 ((rd_T63 l0_1 x26_2).f0)) := (blk_cell BK680.out 0).trans rfl; have hcz103_1 : w96.cell? ⟨gb680, 1, none⟩ = some (.int .i64 ((rd_T63 l0_1 x26_2).f1)) := (blk_cell BK680.out 1).trans rfl; have hfz103_0 := blk_frozen BK680.out 0; have hfz103_1 := blk_frozen BK680.out 1))
                     go_roundg k3
                     case measure => have := HJ1.out; have := HK2.out; have := HK3.out; omega
                     case rel => exact ⟨(x4_3), (wrap64 (x36_3 + 1)), (by first | rfl | (simp; done) | (simp [*]; done)), H', ⟨by have := HJ1.out; have := HK2.out; have := HK3.out; omega⟩, ⟨by (with_reducible repeat (first | apply Kd.R_alloc | apply Kd.R_drewN | apply Kd.R_drew)); exact Kd.R_mono (Kd.R_far (p := ⟨gb686, 1, none⟩) (Kd.R_far (p := ⟨gb686, 0, none⟩) (Kd.R_types HO_4.out BK686.out (by decide)) (fun _ hk => hk.2) (.int .i64 ((rd_T63 y681 x36_3).f0))) (fun _ hk => hk.2) (.int .i64 ((rd_T63 y681 x36_3).f1))) (fun _ hk => trivial)⟩, ⟨by (with_reducible repeat (first | refine blk_drewN ?_ _ | refine blk_drew ?_ | refine blk_alloc ?_ _)); refine blk_far ?_ NB669_686.out _; (with_reducible repeat (first | refine blk_drewN ?_ _ | refine blk_drew ?_ | refine blk_alloc ?_ _)); refine blk_far ?_ NB669_686.out _; (with_reducible repeat (first | refine blk_drewN ?_ _ | refine blk_drew ?_ | refine blk_alloc ?_ _)); exact BK669.out⟩, ⟨by (with_reducible repeat (first | refine blk_drewN ?_ _ | refine blk_drew ?_ | refine blk_alloc ?_ _)); refine blk_far ?_ NB670_686.out _; (with_reducible repeat (first | refine blk_drewN ?_ _ | refine blk_drew ?_ | refine blk_alloc ?_ _)); refine blk_far ?_ NB670_686.out _; (with_reducible repeat (first | refine blk_drewN ?_ _ | refine blk_drew ?_ | refine blk_alloc ?_ _)); exact BK670.out⟩, ⟨by (with_reducible repeat (first | refine blk_drewN ?_ _ | refine blk_drew ?_ | refine blk_alloc ?_ _)); refine blk_far ?_ NB680_686.out _; (with_reducible repeat (first | refine blk_drewN ?_ _ | refine blk_drew ?_ | refine blk_alloc ?_ _)); refine blk_far ?_ NB680_686.out _; (with_reducible repeat (first | refine blk_drewN ?_ _ | refine blk_drew ?_ | refine blk_alloc ?_ _)); exact BK680.out⟩, ⟨by repeat (first | (with_reducible first | exact HB.out | apply below_alloc | apply pw_below_drewN | apply below_drew1 | refine below_set ?_ GE669.out | refine below_set ?_ GE670.out | refine below_set ?_ GE680.out | refine below_set ?_ GE686.out) | exact HB.out)⟩⟩
                ·rw [if_neg c39] at H
                 exact absurd H (by simp)
               ·rw [if_neg c38] at H
                exact absurd H (by simp)
              ·rw [if_neg c37] at H
               have c37b0 : decide (x36_3 < (y681.length : Int)) = false := decide_eq_false c37
               clear c37
               have H' := Aside0.mk H
               clear H
               go_wp2
               go_roundg k3
               case measure => have := HJ1.out; have := HK2.out; have := HK3.out; omega
               case rel => exact ⟨(x4_3), (wrap64 (x26_2 + 1)), (by first | rfl | (simp; done) | (simp [*]; done)), H', ⟨by have := HJ1.out; have := HK2.out; have := HK3.out; omega⟩, ⟨by (with_reducible repeat (first | apply Kd.R_alloc | apply Kd.R_drewN | apply Kd.R_drew)); exact HO_4.out⟩, ⟨by (with_reducible repeat (first | refine blk_drewN ?_ _ | refine blk_drew ?_ | refine blk_alloc ?_ _)); exact BK669.out⟩, ⟨by (with_reducible repeat (first | refine blk_drewN ?_ _ | refine blk_drew ?_ | refine blk_alloc ?_ _)); exact BK670.out⟩, ⟨by repeat (first | (with_reducible first | exact HB.out | apply below_alloc | apply pw_below_drewN | apply below_drew1 | refine below_set ?_ GE669.out | refine below_set ?_ GE670.out | refine below_set ?_ GE680.out) | exact HB.out)⟩⟩
           ·rw [if_neg c28] at H
            exact absurd H (by simp)
          ·rw [if_neg c26] at H
           exact absurd H (by simp)
         ·rw [if_neg c25] at H
          exact absurd H (by simp)
        ·rw [if_neg c24] at H
         have c24b0 : decide (x26_2 < (l0_1.length : Int)) = false := decide_eq_false c24
         clear c24
         replace H := Option.bind_eq_some_iff.mp H
         obtain ⟨⟨t675, t676⟩, A1040, H⟩ := H
         replace H : (some (t675, t676, true)) = some (r1, r2, r3) := H
         have A104 := Aside0.mk A1040
         clear A1040
         simp only [Option.some.injEq, Prod.mk.injEq] at H
         obtain ⟨rfl, rfl, rfl⟩ := H
         obtain ⟨Ao105, co105, eo105⟩ := Kd.R_slice HO_4.out
         subst eo105
         go_wp2_with (first | ((with_reducible refine gate_callee (f := 64) rfl ?_); refine goesL_ (some 74) rfl rfl Try.func64 (by kernel_rfl) rfl #[.slice Ao105 x4_2.length co105] rfl (by (try simp only [List.map_toArray, List.map_cons, List.map_nil]); first | done | rfl | (simp only [List.length_drop, List.length_take]; rfl)) ?_; (with_reducible refine (impl_table_party.calls k2 _ _ x4_2 t675 t676 _ ?side1 ?side2 A104.out).mono ?_); (case side1 => repeat (first | exact (Kd.R_reads' HO_4.out).2.2 | (with_reducible refine Kd.C_alloc ?_ _) | (with_reducible refine Kd.C_drewN ?_ _) | (with_reducible refine Kd.C_drew ?_))); (case side2 => exact (Kd.R_reads' HO_4.out).2.1); rintro e w106 ⟨v677, rfl, ho0, hb⟩; refine ⟨_, rfl, ?_⟩; have n0_ := Aside0.mk (Kd.R_below (by (with_reducible repeat (first | apply Kd.R_alloc | apply Kd.R_drewN | apply Kd.R_drew)); exact HO_4.out) hb); have n1_ := Aside0.mk (Kd.R_lower ho0 (below_size (by repeat (first | (with_reducible first | exact HB.out | apply below_alloc | apply pw_below_drewN | apply below_drew1 | refine below_set ?_ GE669.out | refine below_set ?_ GE670.out) | exact HB.out)))); have n2_ := Aside0.mk (blk_below (g := gb669) (o := .cells #[.int .i64 a0_0, .slice A0_1 l0_1.length c0_1] 30 (0, 0)) (by (with_reducible repeat (first | refine blk_drewN ?_ _ | refine blk_drew ?_ | refine blk_alloc ?_ _)); exact BK669.out) hb); have n3_ := Aside0.mk (blk_below (g := gb670) (o := .cells #[.int .i64 0, .slice none 0 0] 30 (0, 0)) (by (with_reducible repeat (first | refine blk_drewN ?_ _ | refine blk_drew ?_ | refine blk_alloc ?_ _)); exact BK670.out) hb); have n4_ := Aside0.mk (below_step (by repeat (first | (with_reducible first | exact HB.out | apply below_alloc | apply pw_below_drewN | apply below_drew1 | refine below_set ?_ GE669.out | refine below_set ?_ GE670.out) | exact HB.out)) hb); clear HO_4; clear BK669; clear BK670; clear HB; have HO_4 := n0_; have HO678 := n1_; have BK669 := n2_; have BK670 := n3_; have HB := n4_; clear n0_ n1_ n2_ n3_ n4_; (try clear hb); (try clear hb2); (try clear hk); (try clear hi); (try clear ho0); have hnb107 := NB670_669.out; have hnc107 := NB669_670.out; have hcz108_0 : w106.cell? ⟨gb670, 0, none⟩ = some (.int .i64 0) := (blk_cell BK670.out 0).trans rfl; have hcz108_1 : w106.cell? ⟨gb670, 1, none⟩ = some (.slice none 0 0) := (blk_cell BK670.out 1).trans rfl; have hfz108_0 := blk_frozen BK670.out 0; have hfz108_1 := blk_frozen BK670.out 1; obtain ⟨Ao109, co109, eo109⟩ := Kd.R_slice HO678.out; subst eo109))
         refine bodyPost_ret (results_ct rfl _ _ gb670 30 #[.int .i64 t675, .slice Ao109 t676.length co109] (0, 0) _ rfl (by (with_reducible repeat (first | refine blk_drewN ?_ _ | refine blk_drew ?_ | refine blk_alloc ?_ _)); refine blk_put (cs := #[.int .i64 t675, .slice none 0 0]) ?_ 1 _ rfl; (with_reducible repeat (first | refine blk_drewN ?_ _ | refine blk_drew ?_ | refine blk_alloc ?_ _)); refine blk_put (cs := #[.int .i64 0, .slice none 0 0]) ?_ 0 _ rfl; (with_reducible repeat (first | refine blk_drewN ?_ _ | refine blk_drew ?_ | refine blk_alloc ?_ _)); exact BK670.out) Try.underlying30 rfl (by kernel_rfl)) rfl ?_
         exact ⟨_, by first | rfl | (simp [errW_none, errW_some] <;> rfl) | (simp [*, errW_none, errW_some] <;> rfl), by (with_reducible repeat (first | apply Kd.R_alloc | apply Kd.R_drewN | apply Kd.R_drew)); exact Kd.R_mono (Kd.R_far (p := ⟨gb670, 1, none⟩) (Kd.R_far (p := ⟨gb670, 0, none⟩) (Kd.R_types HO678.out BK670.out (by decide)) (fun _ hk => hk.2) (.int .i64 t675)) (fun _ hk => hk.2) (.slice Ao109 t676.length co109)) (fun _ hk => trivial), by repeat (first | (with_reducible first | exact HB.out | apply below_alloc | apply pw_below_drewN | apply below_drew1 | refine below_set ?_ GE669.out | refine below_set ?_ GE670.out) | exact HB.out)⟩
     ·rw [if_neg c18] at H
      exact absurd H (by simp)
    ·rw [if_neg c17] at H
     exact absurd H (by simp)

end Go.Proofs.Ytipblaifgpnebaa.Q
