import Derived.Test.YtipblaifgpnebaaQ0
import Derived.Test.YtipblaifgpnebaaQ6
import Derived.Test.YtipblaifgpnebaaQ81
import Derived.Test.YtipblaifgpnebaaQ2
import Derived.Test.YtipblaifgpnebaaQ12
import Derived.Test.YtipblaifgpnebaaQ29
import Derived.Test.YtipblaifgpnebaaQ68
import Derived.Test.YtipblaifgpnebaaQ70
import Derived.Test.YtipblaifgpnebaaQ83
namespace Go.Proofs.Ytipblaifgpnebaa.Q
open Go.RowKit Go.Proofs.YtipblaifgpnebaaW.PrintWords Go.Proofs.YtipblaifgpnebaaW.PrintLast Go.Proofs.YtipblaifgpnebaaW.PrintMore
attribute [local go_sem] max2_int min2_int max_two min_two max_three min_three max_four min_four   -- for this text's walks alone
set_option linter.unusedVariables false
set_option linter.unusedSimpArgs false

/-! ### spec_LinesOf: function 38 -/
def spec_LinesOf.f (k : Nat) (a0_0 : Int) (l0_1 : List (S63)) : Option (Int × (List (S63)) × Bool) := (spec_paGood.f k a0_0 l0_1).bind fun t758 => (if t758 = true then (if (l0_1.length : Int) > 12 then (some (0, ([] : List (S63)), false)) else ((spec_cfPairs.f k l0_1 true).bind fun bt759 => (some (bt759.1, bt759.2, true)))) else (some (0, ([] : List (S63)), false)))
theorem spec_LinesOf.mono : ∀ a0 a1 k, LeO (spec_LinesOf.f k a0 a1) (spec_LinesOf.f (k + 1) a0 a1) := by
 intro a0 a1 k
 unfold spec_LinesOf.f
 repeat' first
   | (with_reducible exact spec_cfPairs.mono _ _ _)
   | (with_reducible exact spec_paGood.mono _ _ _)
   | (with_reducible exact LeO.refl _)
   | (with_reducible exact LeO.none _)
   | (with_reducible refine LeO.ite ?_ ?_)
   | (with_reducible refine LeO.bind ?_ (fun _ => ?_))
   | exact spec_cfPairs.mono _ _ _
   | exact spec_paGood.mono _ _ _
   | exact LeO.none _
   | refine LeO.ite ?_ ?_
   | refine LeO.bind ?_ (fun _ => ?_)
set_option maxHeartbeats 8000000 in
set_option maxRecDepth 100000 in
theorem spec_LinesOf.calls (k : Nat) (a0_0 : Int) (A0_1 : Option Addr) (c0_1 : Nat) (l0_1 : List (S63)) (r1 : Int) (r2 : List (S63)) (r3 : Bool) (w : World) (hr0_1 : Kd.C k63 w A0_1 l0_1.length l0_1) (hc0_1 : l0_1.length ≤ c0_1) (h : spec_LinesOf.f k a0_0 l0_1 = some (r1, r2, r3)) :
  Calls Try.prog 38 #[.agg #[.int .i64 a0_0, .slice A0_1 l0_1.length c0_1]] w fun e w' => ∃ v1_ : Value, e = .returned (.tuple #[.agg #[.int .i64 r1, v1_], .bool r3]) ∧ Kd.R k63 63 w' w.heap.size (fun _ => True) v1_ r2 ∧ Below w.heap.size w w' := by
 have hu30 := Try.underlying30
 have HR0_1 := Aside0.mk hr0_1
 have HC0_1 := Aside0.mk hc0_1
 clear hr0_1 hc0_1
 have HB := Aside0.mk (Below.refl w.heap.size w)
 have H : ((spec_paGood.f k a0_0 l0_1).bind fun t758 => (if t758 = true then (if (l0_1.length : Int) > 12 then (some (0, ([] : List (S63)), false)) else ((spec_cfPairs.f k l0_1 true).bind fun bt759 => (some (bt759.1, bt759.2, true)))) else (some (0, ([] : List (S63)), false)))) = some (r1, r2, r3) := h
 clear h
 replace H := Option.bind_eq_some_iff.mp H
 obtain ⟨t758, A20, H⟩ := H
 replace H : (if t758 = true then (if (l0_1.length : Int) > 12 then (some (0, ([] : List (S63)), false)) else ((spec_cfPairs.f k l0_1 true).bind fun bt759 => (some (bt759.1, bt759.2, true)))) else (some (0, ([] : List (S63)), false))) = some (r1, r2, r3) := H
 have A2 := Aside0.mk A20
 clear A20
 by_cases c3 : t758 = true
 ·subst c3
  have H1 : (if (l0_1.length : Int) > 12 then (some (0, ([] : List (S63)), false)) else ((spec_cfPairs.f k l0_1 true).bind fun bt759 => (some (bt759.1, bt759.2, true)))) = some (r1, r2, r3) := by rw [if_pos rfl] at H; exact H
  clear H
  have H := H1
  clear H1
  by_cases c4 : (l0_1.length : Int) > 12
  ·rw [if_pos c4] at H
   have c4b0 : decide (12 < (l0_1.length : Int)) = true := decide_eq_true c4
   have c4b1 : decide (12 < l0_1.length) = true := decide_eq_true (by omega)
   clear c4
   simp only [Option.some.injEq, Prod.mk.injEq] at H
   obtain ⟨rfl, rfl, rfl⟩ := H
   go_enter Try.func38, Try.ntmps38
   go_wp2_with (first | ((with_reducible refine gate_dst (N := 1) rfl ?_); (try (refine gate_guard (by rfl) ?_; dsimp only)); refine box_event ?hg (N := 1) ?hd (cs := #[.int .i64 a0_0, .slice A0_1 l0_1.length c0_1]) (t := 30) ?hr ?_; (case hd => rfl); (case hg => rfl); (case hr => first | (go_simp; done) | (go_simp; rfl)); intro gb756 hg w5 hbox hb; have n0_ := Aside0.mk (below_step (by repeat (first | (with_reducible first | exact HB.out | apply below_alloc | apply pw_below_drewN | apply below_drew1) | exact HB.out)) hb); have n1_ := Aside0.mk (hbox); have n2_ := Aside0.mk ((by rw [hg]; exact (below_size (by repeat (first | (with_reducible first | exact HB.out | apply below_alloc | apply pw_below_drewN | apply below_drew1) | exact HB.out))) : w.heap.size ≤ gb756)); have n3_ := n2_; clear HB; have HB := n0_; have BK756 := n1_; have GW756 := n2_; have GE756 := n3_; clear n0_ n1_ n2_ n3_; clear hb hbox hg) | ((with_reducible refine gate_dst (N := 2) rfl ?_); (try (refine gate_guard (by rfl) ?_; dsimp only)); refine box_event ?hg (N := 2) ?hd (cs := #[.int .i64 0, .slice none 0 0]) (t := 30) ?hr ?_; (case hd => rfl); (case hg => rfl); (case hr => first | (go_simp; done) | (go_simp; rfl)); intro gb757 hg w6 hbox hb; have n0_ := Aside0.mk (blk_below (g := gb756) (o := .cells #[.int .i64 a0_0, .slice A0_1 l0_1.length c0_1] 30 (0, 0)) (by (with_reducible repeat (first | refine blk_drewN ?_ _ | refine blk_drew ?_ | refine blk_alloc ?_ _)); exact BK756.out) hb); have n1_ := Aside0.mk (below_step (by repeat (first | (with_reducible first | exact HB.out | apply below_alloc | apply pw_below_drewN | apply below_drew1 | refine below_set ?_ GE756.out) | exact HB.out)) hb); have n2_ := Aside0.mk (hbox); have n3_ := Aside0.mk ((by rw [hg]; exact (below_size (by repeat (first | (with_reducible first | exact HB.out | apply below_alloc | apply pw_below_drewN | apply below_drew1 | refine below_set ?_ GE756.out) | exact HB.out))) : w.heap.size ≤ gb757)); have n4_ := n3_; have n5_ := Aside0.mk ((by rw [hg]; exact Nat.ne_of_lt (blk_lt (g := gb756) (o := .cells #[.int .i64 a0_0, .slice A0_1 l0_1.length c0_1] 30 (0, 0)) (by (with_reducible repeat (first | refine blk_drewN ?_ _ | refine blk_drew ?_ | refine blk_alloc ?_ _)); exact BK756.out)) : gb756 ≠ gb757)); have n6_ := Aside0.mk n5_.out.symm; clear BK756; clear HB; have BK756 := n0_; have HB := n1_; have BK757 := n2_; have GW757 := n3_; have GE757 := n4_; have NB756_757 := n5_; have NB757_756 := n6_; clear n0_ n1_ n2_ n3_ n4_ n5_ n6_; clear hb hbox hg; have hnb7 := NB756_757.out; have hnc7 := NB757_756.out; have hcz8_0 : w6.cell? ⟨gb756, 0, none⟩ = some (.int .i64 a0_0) := (blk_cell BK756.out 0).trans rfl; have hcz8_1 : w6.cell? ⟨gb756, 1, none⟩ = some (.slice A0_1 l0_1.length c0_1) := (blk_cell BK756.out 1).trans rfl; have hfz8_0 := blk_frozen BK756.out 0; have hfz8_1 := blk_frozen BK756.out 1) | ((with_reducible refine gate_callee (f := 40) rfl ?_); refine goesL_ (some 5) rfl rfl Try.func40 (by kernel_rfl) rfl #[.agg #[.int .i64 a0_0, .slice A0_1 l0_1.length c0_1]] rfl (by (try simp only [List.map_toArray, List.map_cons, List.map_nil]); first | done | rfl | (simp only [List.length_drop, List.length_take]; rfl)) ?_; (with_reducible refine (spec_paGood.calls k a0_0 _ _ l0_1 true _ ?side1 ?side2 A2.out).mono ?_); (case side1 => repeat (first | exact (Kd.C_below HR0_1.out HB.out) | (with_reducible refine Kd.C_alloc ?_ _) | (with_reducible refine Kd.C_drewN ?_ _) | (with_reducible refine Kd.C_drew ?_))); (case side2 => exact HC0_1.out); rintro e w9 ⟨rfl, hb⟩; refine ⟨_, rfl, ?_⟩; have n0_ := Aside0.mk (blk_below (g := gb756) (o := .cells #[.int .i64 a0_0, .slice A0_1 l0_1.length c0_1] 30 (0, 0)) (by (with_reducible repeat (first | refine blk_drewN ?_ _ | refine blk_drew ?_ | refine blk_alloc ?_ _)); exact BK756.out) hb); have n1_ := Aside0.mk (blk_below (g := gb757) (o := .cells #[.int .i64 0, .slice none 0 0] 30 (0, 0)) (by (with_reducible repeat (first | refine blk_drewN ?_ _ | refine blk_drew ?_ | refine blk_alloc ?_ _)); exact BK757.out) hb); have n2_ := Aside0.mk (below_step (by repeat (first | (with_reducible first | exact HB.out | apply below_alloc | apply pw_below_drewN | apply below_drew1 | refine below_set ?_ GE756.out | refine below_set ?_ GE757.out) | exact HB.out)) hb); clear BK756; clear BK757; clear HB; have BK756 := n0_; have BK757 := n1_; have HB := n2_; clear n0_ n1_ n2_; (try clear hb); (try clear hb2); (try clear hk); (try clear hi); have hcz10_0 : w9.cell? ⟨gb756, 0, none⟩ = some (.int .i64 a0_0) := (blk_cell BK756.out 0).trans rfl; have hcz10_1 : w9.cell? ⟨gb756, 1, none⟩ = some (.slice A0_1 l0_1.length c0_1) := (blk_cell BK756.out 1).trans rfl; have hfz10_0 := blk_frozen BK756.out 0; have hfz10_1 := blk_frozen BK756.out 1; have hcz11_0 : w9.cell? ⟨gb757, 0, none⟩ = some (.int .i64 0) := (blk_cell BK757.out 0).trans rfl; have hcz11_1 : w9.cell? ⟨gb757, 1, none⟩ = some (.slice none 0 0) := (blk_cell BK757.out 1).trans rfl; have hfz11_0 := blk_frozen BK757.out 0; have hfz11_1 := blk_frozen BK757.out 1))
   refine bodyPost_ret (results_ct rfl _ _ gb757 30 #[.int .i64 0, .slice none 0 0] (0, 0) _ rfl (by (with_reducible repeat (first | refine blk_drewN ?_ _ | refine blk_drew ?_ | refine blk_alloc ?_ _)); refine blk_put (cs := #[.int .i64 0, .slice none 0 0]) ?_ 1 _ rfl; (with_reducible repeat (first | refine blk_drewN ?_ _ | refine blk_drew ?_ | refine blk_alloc ?_ _)); refine blk_put (cs := #[.int .i64 0, .slice none 0 0]) ?_ 0 _ rfl; (with_reducible repeat (first | refine blk_drewN ?_ _ | refine blk_drew ?_ | refine blk_alloc ?_ _)); exact BK757.out) Try.underlying30 rfl (by kernel_rfl)) rfl ?_
   exact ⟨_, by first | rfl | (simp [errW_none, errW_some] <;> rfl) | (simp [*, errW_none, errW_some] <;> rfl), by first | exact Kd.R_nil _ _ _ _ _ | exact Kd.N_nil _ _ _ _ _ | exact Kd.V_nil _ _ _ _ _ | exact Kd.Q_nil _ _ _ _ _ | exact Kd.S_nil _ _ _ _ _, by repeat (first | (with_reducible first | exact HB.out | apply below_alloc | apply pw_below_drewN | apply below_drew1 | refine below_set ?_ GE756.out | refine below_set ?_ GE757.out) | exact HB.out)⟩
  ·rw [if_neg c4] at H
   have c4b0 : decide (12 < (l0_1.length : Int)) = false := decide_eq_false c4
   have c4b1 : decide (12 < l0_1.length) = false := decide_eq_false (by omega)
   clear c4
   replace H := Option.bind_eq_some_iff.mp H
   obtain ⟨⟨t759, t760⟩, A120, H⟩ := H
   replace H : (some (t759, t760, true)) = some (r1, r2, r3) := H
   have A12 := Aside0.mk A120
   clear A120
   simp only [Option.some.injEq, Prod.mk.injEq] at H
   obtain ⟨rfl, rfl, rfl⟩ := H
   go_enter Try.func38, Try.ntmps38
   go_wp2_with (first | ((with_reducible refine gate_dst (N := 1) rfl ?_); (try (refine gate_guard (by rfl) ?_; dsimp only)); refine box_event ?hg (N := 1) ?hd (cs := #[.int .i64 a0_0, .slice A0_1 l0_1.length c0_1]) (t := 30) ?hr ?_; (case hd => rfl); (case hg => rfl); (case hr => first | (go_simp; done) | (go_simp; rfl)); intro gb756 hg w13 hbox hb; have n0_ := Aside0.mk (below_step (by repeat (first | (with_reducible first | exact HB.out | apply below_alloc | apply pw_below_drewN | apply below_drew1) | exact HB.out)) hb); have n1_ := Aside0.mk (hbox); have n2_ := Aside0.mk ((by rw [hg]; exact (below_size (by repeat (first | (with_reducible first | exact HB.out | apply below_alloc | apply pw_below_drewN | apply below_drew1) | exact HB.out))) : w.heap.size ≤ gb756)); have n3_ := n2_; clear HB; have HB := n0_; have BK756 := n1_; have GW756 := n2_; have GE756 := n3_; clear n0_ n1_ n2_ n3_; clear hb hbox hg) | ((with_reducible refine gate_dst (N := 2) rfl ?_); (try (refine gate_guard (by rfl) ?_; dsimp only)); refine box_event ?hg (N := 2) ?hd (cs := #[.int .i64 0, .slice none 0 0]) (t := 30) ?hr ?_; (case hd => rfl); (case hg => rfl); (case hr => first | (go_simp; done) | (go_simp; rfl)); intro gb757 hg w14 hbox hb; have n0_ := Aside0.mk (blk_below (g := gb756) (o := .cells #[.int .i64 a0_0, .slice A0_1 l0_1.length c0_1] 30 (0, 0)) (by (with_reducible repeat (first | refine blk_drewN ?_ _ | refine blk_drew ?_ | refine blk_alloc ?_ _)); exact BK756.out) hb); have n1_ := Aside0.mk (below_step (by repeat (first | (with_reducible first | exact HB.out | apply below_alloc | apply pw_below_drewN | apply below_drew1 | refine below_set ?_ GE756.out) | exact HB.out)) hb); have n2_ := Aside0.mk (hbox); have n3_ := Aside0.mk ((by rw [hg]; exact (below_size (by repeat (first | (with_reducible first | exact HB.out | apply below_alloc | apply pw_below_drewN | apply below_drew1 | refine below_set ?_ GE756.out) | exact HB.out))) : w.heap.size ≤ gb757)); have n4_ := n3_; have n5_ := Aside0.mk ((by rw [hg]; exact Nat.ne_of_lt (blk_lt (g := gb756) (o := .cells #[.int .i64 a0_0, .slice A0_1 l0_1.length c0_1] 30 (0, 0)) (by (with_reducible repeat (first | refine blk_drewN ?_ _ | refine blk_drew ?_ | refine blk_alloc ?_ _)); exact BK756.out)) : gb756 ≠ gb757)); have n6_ := Aside0.mk n5_.out.symm; clear BK756; clear HB; have BK756 := n0_; have HB := n1_; have BK757 := n2_; have GW757 := n3_; have GE757 := n4_; have NB756_757 := n5_; have NB757_756 := n6_; clear n0_ n1_ n2_ n3_ n4_ n5_ n6_; clear hb hbox hg; have hnb15 := NB756_757.out; have hnc15 := NB757_756.out; have hcz16_0 : w14.cell? ⟨gb756, 0, none⟩ = some (.int .i64 a0_0) := (blk_cell BK756.out 0).trans rfl; have hcz16_1 : w14.cell? ⟨gb756, 1, none⟩ = some (.slice A0_1 l0_1.length c0_1) := (blk_cell BK756.out 1).trans rfl; have hfz16_0 := blk_frozen BK756.out 0; have hfz16_1 := blk_frozen BK756.out 1) | ((with_reducible refine gate_callee (f := 40) rfl ?_); refine goesL_ (some 5) rfl rfl Try.func40 (by kernel_rfl) rfl #[.agg #[.int .i64 a0_0, .slice A0_1 l0_1.length c0_1]] rfl (by (try simp only [List.map_toArray, List.map_cons, List.map_nil]); first | done | rfl | (simp only [List.length_drop, List.length_take]; rfl)) ?_; (with_reducible refine (spec_paGood.calls k a0_0 _ _ l0_1 true _ ?side1 ?side2 A2.out).mono ?_); (case side1 => repeat (first | exact (Kd.C_below HR0_1.out HB.out) | (with_reducible refine Kd.C_alloc ?_ _) | (with_reducible refine Kd.C_drewN ?_ _) | (with_reducible refine Kd.C_drew ?_))); (case side2 => exact HC0_1.out); rintro e w17 ⟨rfl, hb⟩; refine ⟨_, rfl, ?_⟩; have n0_ := Aside0.mk (blk_below (g := gb756) (o := .cells #[.int .i64 a0_0, .slice A0_1 l0_1.length c0_1] 30 (0, 0)) (by (with_reducible repeat (first | refine blk_drewN ?_ _ | refine blk_drew ?_ | refine blk_alloc ?_ _)); exact BK756.out) hb); have n1_ := Aside0.mk (blk_below (g := gb757) (o := .cells #[.int .i64 0, .slice none 0 0] 30 (0, 0)) (by (with_reducible repeat (first | refine blk_drewN ?_ _ | refine blk_drew ?_ | refine blk_alloc ?_ _)); exact BK757.out) hb); have n2_ := Aside0.mk (below_step (by repeat (first | (with_reducible first | exact HB.out | apply below_alloc | apply pw_below_drewN | apply below_drew1 | refine below_set ?_ GE756.out | refine below_set ?_ GE757.out) | exact HB.out)) hb); clear BK756; clear BK757; clear HB; have BK756 := n0_; have BK757 := n1_; have HB := n2_; clear n0_ n1_ n2_; (try clear hb); (try clear hb2); (try clear hk); (try clear hi); have hcz18_0 : w17.cell? ⟨gb756, 0, none⟩ = some (.int .i64 a0_0) := (blk_cell BK756.out 0).trans rfl; have hcz18_1 : w17.cell? ⟨gb756, 1, none⟩ = some (.slice A0_1 l0_1.length c0_1) := (blk_cell BK756.out 1).trans rfl; have hfz18_0 := blk_frozen BK756.out 0; have hfz18_1 := blk_frozen BK756.out 1) | ((with_reducible refine gate_callee (f := 72) rfl ?_); refine goesL_ (some 16) rfl rfl Try.func72 (by kernel_rfl) rfl #[.slice A0_1 l0_1.length c0_1, .bool true] rfl (by (try simp only [List.map_toArray, List.map_cons, List.map_nil]); first | done | rfl | (simp only [List.length_drop, List.length_take]; rfl)) ?_; (with_reducible refine (spec_cfPairs.calls k _ _ l0_1 true t759 t760 _ ?side1 ?side2 A12.out).mono ?_); (case side1 => repeat (first | exact (Kd.C_below HR0_1.out HB.out) | (with_reducible refine Kd.C_alloc ?_ _) | (with_reducible refine Kd.C_drewN ?_ _) | (with_reducible refine Kd.C_drew ?_))); (case side2 => exact HC0_1.out); rintro e w19 ⟨v761, rfl, ho0, hb⟩; refine ⟨_, rfl, ?_⟩; have n0_ := Aside0.mk (Kd.R_lower ho0 (below_size (by repeat (first | (with_reducible first | exact HB.out | apply below_alloc | apply pw_below_drewN | apply below_drew1 | refine below_set ?_ GE756.out | refine below_set ?_ GE757.out) | exact HB.out)))); have n1_ := Aside0.mk (blk_below (g := gb756) (o := .cells #[.int .i64 a0_0, .slice A0_1 l0_1.length c0_1] 30 (0, 0)) (by (with_reducible repeat (first | refine blk_drewN ?_ _ | refine blk_drew ?_ | refine blk_alloc ?_ _)); exact BK756.out) hb); have n2_ := Aside0.mk (blk_below (g := gb757) (o := .cells #[.int .i64 0, .slice none 0 0] 30 (0, 0)) (by (with_reducible repeat (first | refine blk_drewN ?_ _ | refine blk_drew ?_ | refine blk_alloc ?_ _)); exact BK757.out) hb); have n3_ := Aside0.mk (below_step (by repeat (first | (with_reducible first | exact HB.out | apply below_alloc | apply pw_below_drewN | apply below_drew1 | refine below_set ?_ GE756.out | refine below_set ?_ GE757.out) | exact HB.out)) hb); clear BK756; clear BK757; clear HB; have HO762 := n0_; have BK756 := n1_; have BK757 := n2_; have HB := n3_; clear n0_ n1_ n2_ n3_; (try clear hb); (try clear hb2); (try clear hk); (try clear hi); (try clear ho0); have hcz20_0 : w19.cell? ⟨gb757, 0, none⟩ = some (.int .i64 0) := (blk_cell BK757.out 0).trans rfl; have hcz20_1 : w19.cell? ⟨gb757, 1, none⟩ = some (.slice none 0 0) := (blk_cell BK757.out 1).trans rfl; have hfz20_0 := blk_frozen BK757.out 0; have hfz20_1 := blk_frozen BK757.out 1; obtain ⟨Ao21, co21, eo21⟩ := Kd.R_slice HO762.out; subst eo21))
   refine bodyPost_ret (results_ct rfl _ _ gb757 30 #[.int .i64 t759, .slice Ao21 t760.length co21] (0, 0) _ rfl (by (with_reducible repeat (first | refine blk_drewN ?_ _ | refine blk_drew ?_ | refine blk_alloc ?_ _)); refine blk_put (cs := #[.int .i64 t759, .slice none 0 0]) ?_ 1 _ rfl; (with_reducible repeat (first | refine blk_drewN ?_ _ | refine blk_drew ?_ | refine blk_alloc ?_ _)); refine blk_put (cs := #[.int .i64 0, .slice none 0 0]) ?_ 0 _ rfl; (with_reducible repeat (first | refine blk_drewN ?_ _ | refine blk_drew ?_ | refine blk_alloc ?_ _)); exact BK757.out) Try.underlying30 rfl (by kernel_rfl)) rfl ?_
   exact ⟨_, by first | rfl | (simp [errW_none, errW_some] <;> rfl) | (simp [*, errW_none, errW_some] <;> rfl), by (with_reducible repeat (first | apply Kd.R_alloc | apply Kd.R_drewN | apply Kd.R_drew)); exact Kd.R_mono (Kd.R_far (p := ⟨gb757, 1, none⟩) (Kd.R_far (p := ⟨gb757, 0, none⟩) (Kd.R_types HO762.out BK757.out (by decide)) (fun _ hk => hk.2) (.int .i64 t759)) (fun _ hk => hk.2) (.slice Ao21 t760.length co21)) (fun _ hk => trivial), by repeat (first | (with_reducible first | exact HB.out | apply below_alloc | apply pw_below_drewN | apply below_drew1 | refine below_set ?_ GE756.out | refine below_set ?_ GE757.out) | exact HB.out)⟩
 ·replace c3 := Bool.eq_false_iff.mpr c3
  subst c3
  have H1 : (some (0, ([] : List (S63)), false)) = some (r1, r2, r3) := by rw [if_neg (show ¬ (false = true) by decide)] at H; exact H
  clear H
  have H := H1
  clear H1
  simp only [Option.some.injEq, Prod.mk.injEq] at H
  obtain ⟨rfl, rfl, rfl⟩ := H
  go_enter Try.func38, Try.ntmps38
  go_wp2_with (first | ((with_reducible refine gate_dst (N := 1) rfl ?_); (try (refine gate_guard (by rfl) ?_; dsimp only)); refine box_event ?hg (N := 1) ?hd (cs := #[.int .i64 a0_0, .slice A0_1 l0_1.length c0_1]) (t := 30) ?hr ?_; (case hd => rfl); (case hg => rfl); (case hr => first | (go_simp; done) | (go_simp; rfl)); intro gb756 hg w22 hbox hb; have n0_ := Aside0.mk (below_step (by repeat (first | (with_reducible first | exact HB.out | apply below_alloc | apply pw_below_drewN | apply below_drew1) | exact HB.out)) hb); have n1_ := Aside0.mk (hbox); have n2_ := Aside0.mk ((by rw [hg]; exact (below_size (by repeat (first | (with_reducible first | exact HB.out | apply below_alloc | apply pw_below_drewN | apply below_drew1) | exact HB.out))) : w.heap.size ≤ gb756)); have n3_ := n2_; clear HB; have HB := n0_; have BK756 := n1_; have GW756 := n2_; have GE756 := n3_; clear n0_ n1_ n2_ n3_; clear hb hbox hg) | ((with_reducible refine gate_dst (N := 2) rfl ?_); (try (refine gate_guard (by rfl) ?_; dsimp only)); refine box_event ?hg (N := 2) ?hd (cs := #[.int .i64 0, .slice none 0 0]) (t := 30) ?hr ?_; (case hd => rfl); (case hg => rfl); (case hr => first | (go_simp; done) | (go_simp; rfl)); intro gb757 hg w23 hbox hb; have n0_ := Aside0.mk (blk_below (g := gb756) (o := .cells #[.int .i64 a0_0, .slice A0_1 l0_1.length c0_1] 30 (0, 0)) (by (with_reducible repeat (first | refine blk_drewN ?_ _ | refine blk_drew ?_ | refine blk_alloc ?_ _)); exact BK756.out) hb); have n1_ := Aside0.mk (below_step (by repeat (first | (with_reducible first | exact HB.out | apply below_alloc | apply pw_below_drewN | apply below_drew1 | refine below_set ?_ GE756.out) | exact HB.out)) hb); have n2_ := Aside0.mk (hbox); have n3_ := Aside0.mk ((by rw [hg]; exact (below_size (by repeat (first | (with_reducible first | exact HB.out | apply below_alloc | apply pw_below_drewN | apply below_drew1 | refine below_set ?_ GE756.out) | exact HB.out))) : w.heap.size ≤ gb757)); have n4_ := n3_; have n5_ := Aside0.mk ((by rw [hg]; exact Nat.ne_of_lt (blk_lt (g := gb756) (o := .cells #[.int .i64 a0_0, .slice A0_1 l0_1.length c0_1] 30 (0, 0)) (by (with_reducible repeat (first | refine blk_drewN ?_ _ | refine blk_drew ?_ | refine blk_alloc ?_ _)); exact BK756.out)) : gb756 ≠ gb757)); have n6_ := Aside0.mk n5_.out.symm; clear BK756; clear HB; have BK756 := n0_; have HB := n1_; have BK757 := n2_; have GW757 := n3_; have GE757 := n4_; have NB756_757 := n5_; have NB757_756 := n6_; clear n0_ n1_ n2_ n3_ n4_ n5_ n6_; clear hb hbox hg; have hnb24 := NB756_757.out; have hnc24 := NB757_756.out; have hcz25_0 : w23.cell? ⟨gb756, 0, none⟩ = some (.int .i64 a0_0) := (blk_cell BK756.out 0).trans rfl; have hcz25_1 : w23.cell? ⟨gb756, 1, none⟩ = some (.slice A0_1 l0_1.length c0_1) := (blk_cell BK756.out 1).trans rfl; have hfz25_0 := blk_frozen BK756.out 0; have hfz25_1 := blk_frozen BK756.out 1) | ((with_reducible refine gate_callee (f := 40) rfl ?_); refine goesL_ (some 5) rfl rfl Try.func40 (by kernel_rfl) rfl #[.agg #[.int .i64 a0_0, .slice A0_1 l0_1.length c0_1]] rfl (by (try simp only [List.map_toArray, List.map_cons, List.map_nil]); first | done | rfl | (simp only [List.length_drop, List.length_take]; rfl)) ?_; (with_reducible refine (spec_paGood.calls k a0_0 _ _ l0_1 false _ ?side1 ?side2 A2.out).mono ?_); (case side1 => repeat (first | exact (Kd.C_below HR0_1.out HB.out) | (with_reducible refine Kd.C_alloc ?_ _) | (with_reducible refine Kd.C_drewN ?_ _) | (with_reducible refine Kd.C_drew ?_))); (case side2 => exact HC0_1.out); rintro e w26 ⟨rfl, hb⟩; refine ⟨_, rfl, ?_⟩; have n0_ := Aside0.mk (blk_below (g := gb756) (o := .cells #[.int .i64 a0_0, .slice A0_1 l0_1.length c0_1] 30 (0, 0)) (by (with_reducible repeat (first | refine blk_drewN ?_ _ | refine blk_drew ?_ | refine blk_alloc ?_ _)); exact BK756.out) hb); have n1_ := Aside0.mk (blk_below (g := gb757) (o := .cells #[.int .i64 0, .slice none 0 0] 30 (0, 0)) (by (with_reducible repeat (first | refine blk_drewN ?_ _ | refine blk_drew ?_ | refine blk_alloc ?_ _)); exact BK757.out) hb); have n2_ := Aside0.mk (below_step (by repeat (first | (with_reducible first | exact HB.out | apply below_alloc | apply pw_below_drewN | apply below_drew1 | refine below_set ?_ GE756.out | refine below_set ?_ GE757.out) | exact HB.out)) hb); clear BK756; clear BK757; clear HB; have BK756 := n0_; have BK757 := n1_; have HB := n2_; clear n0_ n1_ n2_; (try clear hb); (try clear hb2); (try clear hk); (try clear hi); have hcz27_0 : w26.cell? ⟨gb757, 0, none⟩ = some (.int .i64 0) := (blk_cell BK757.out 0).trans rfl; have hcz27_1 : w26.cell? ⟨gb757, 1, none⟩ = some (.slice none 0 0) := (blk_cell BK757.out 1).trans rfl; have hfz27_0 := blk_frozen BK757.out 0; have hfz27_1 := blk_frozen BK757.out 1))
  refine bodyPost_ret (results_ct rfl _ _ gb757 30 #[.int .i64 0, .slice none 0 0] (0, 0) _ rfl (by (with_reducible repeat (first | refine blk_drewN ?_ _ | refine blk_drew ?_ | refine blk_alloc ?_ _)); refine blk_put (cs := #[.int .i64 0, .slice none 0 0]) ?_ 1 _ rfl; (with_reducible repeat (first | refine blk_drewN ?_ _ | refine blk_drew ?_ | refine blk_alloc ?_ _)); refine blk_put (cs := #[.int .i64 0, .slice none 0 0]) ?_ 0 _ rfl; (with_reducible repeat (first | refine blk_drewN ?_ _ | refine blk_drew ?_ | refine blk_alloc ?_ _)); exact BK757.out) Try.underlying30 rfl (by kernel_rfl)) rfl ?_
  exact ⟨_, by first | rfl | (simp [errW_none, errW_some] <;> rfl) | (simp [*, errW_none, errW_some] <;> rfl), by first | exact Kd.R_nil _ _ _ _ _ | exact Kd.N_nil _ _ _ _ _ | exact Kd.V_nil _ _ _ _ _ | exact Kd.Q_nil _ _ _ _ _ | exact Kd.S_nil _ _ _ _ _, by repeat (first | (with_reducible first | exact HB.out | apply below_alloc | apply pw_below_drewN | apply below_drew1 | refine below_set ?_ GE756.out | refine below_set ?_ GE757.out) | exact HB.out)⟩

end Go.Proofs.Ytipblaifgpnebaa.Q
namespace Go.Proofs.Ytipblaifgpnebaa.Q
open Go.RowKit Go.Proofs.YtipblaifgpnebaaW.PrintWords Go.Proofs.YtipblaifgpnebaaW.PrintLast Go.Proofs.YtipblaifgpnebaaW.PrintMore
attribute [local go_sem] max2_int min2_int max_two min_two max_three min_three max_four min_four   -- for this text's walks alone
set_option linter.unusedVariables false
set_option linter.unusedSimpArgs false

/-! ### laws_FnExactLinesOf: function 10 -/
mutual
def laws_FnExactLinesOf.j0 : Nat → Bool → Bool → Bool → Int → List (S67) → Int → List (S63) → Int → List (S63) → Int → List (S63) → Option (Bool)
 | 0, _, _, _, _, _, _, _, _, _, _, _ => none
 | k + 1, x5, x8, x40, x764000, x764001, x775000, x775001, x780000, x780001, x786000, x786001 => if x40 = true then (some false) else ((laws_toParty.f k x764000 x764001).bind fun bt787 => ((laws_eqParty.f k x780000 x780001 bt787.1 bt787.2).bind fun t791 => (if t791 = true then ((laws_markParty.f k x780000 x780001 1).bind fun bt792 => (if bt792.1 < 0 then (laws_FnExactLinesOf.j1 k x5 true x764000 x764001 x775000 x775001 x786000 x786001) else ((laws_eqParty.f k x786000 x786001 x775000 x775001).bind fun t794 => (if t794 = true then (laws_FnExactLinesOf.j1 k x5 (x8 != x5) x764000 x764001 x775000 x775001 x786000 x786001) else (laws_FnExactLinesOf.j1 k x5 true x764000 x764001 x775000 x775001 x786000 x786001))))) else (some false))))
def laws_FnExactLinesOf.j1 : Nat → Bool → Bool → Int → List (S67) → Int → List (S63) → Int → List (S63) → Option (Bool)
 | 0, _, _, _, _, _, _, _, _ => none
 | k + 1, x5, x61, x764000, x764001, x775000, x775001, x786000, x786001 => if x61 = true then (some false) else ((laws_markParty.f k x786000 x786001 1).bind fun bt795 => ((laws_heldParty.f k x786000 bt795.2 1).bind fun t797 => (if t797 < 0 then (some false) else (if t797 = bt795.1 then ((laws_toParty.f k x764000 x764001).bind fun bt798 => ((impl_LinesOf.f k bt798.1 bt798.2).bind fun bt802 => ((laws_eqParty.f k bt802.1 bt802.2.1 x775000 x775001).bind fun t808 => (if t808 = true then (laws_FnExactLinesOf.j2 k bt795.1 (bt802.2.2 != x5) x786000 bt795.2) else (laws_FnExactLinesOf.j2 k bt795.1 true x786000 bt795.2))))) else (some false)))))
def laws_FnExactLinesOf.j2 : Nat → Int → Bool → Int → List (S63) → Option (Bool)
 | 0, _, _, _, _ => none
 | k + 1, x10, x87, x786000, x786001 => if x87 = true then (some false) else ((laws_heldParty.f k x786000 x786001 1).bind fun t809 => (if t809 < 0 then (some false) else (if t809 = x10 then (some true) else (some false))))
end
def laws_FnExactLinesOf.f (k : Nat) (a0_0 : Int) (l0_1 : List (S67)) : Option (Bool) := (laws_szParty.f a0_0 l0_1 1048576).bind fun t764 => (if t764 < 0 then (some true) else ((laws_toParty.f k a0_0 l0_1).bind fun bt765 => ((spec_LinesOf.f k bt765.1 bt765.2).bind fun bt769 => ((laws_toParty.f k a0_0 l0_1).bind fun bt775 => ((impl_LinesOf.f k bt775.1 bt775.2).bind fun bt780 => ((laws_eqParty.f k bt780.1 bt780.2.1 bt769.1 bt769.2.1).bind fun t786 => (if t786 = true then (laws_FnExactLinesOf.j0 k bt769.2.2 bt780.2.2 (bt780.2.2 != bt769.2.2) a0_0 l0_1 bt769.1 bt769.2.1 bt775.1 bt775.2 bt780.1 bt780.2.1) else (laws_FnExactLinesOf.j0 k bt769.2.2 bt780.2.2 true a0_0 l0_1 bt769.1 bt769.2.1 bt775.1 bt775.2 bt780.1 bt780.2.1))))))))
theorem laws_FnExactLinesOf.mono_l : ∀ k, (∀ y0 y1 y2 y3 y4 y5 y6 y7 y8 y9 y10, LeO (laws_FnExactLinesOf.j0 k y0 y1 y2 y3 y4 y5 y6 y7 y8 y9 y10) (laws_FnExactLinesOf.j0 (k + 1) y0 y1 y2 y3 y4 y5 y6 y7 y8 y9 y10)) ∧ (∀ y0 y1 y2 y3 y4 y5 y6 y7, LeO (laws_FnExactLinesOf.j1 k y0 y1 y2 y3 y4 y5 y6 y7) (laws_FnExactLinesOf.j1 (k + 1) y0 y1 y2 y3 y4 y5 y6 y7)) ∧ (∀ y0 y1 y2 y3, LeO (laws_FnExactLinesOf.j2 k y0 y1 y2 y3) (laws_FnExactLinesOf.j2 (k + 1) y0 y1 y2 y3))
 | 0 => ⟨fun _ _ _ _ _ _ _ _ _ _ _ r h => by simp [laws_FnExactLinesOf.j0] at h, fun _ _ _ _ _ _ _ _ r h => by simp [laws_FnExactLinesOf.j1] at h, fun _ _ _ _ r h => by simp [laws_FnExactLinesOf.j2] at h⟩
 | k + 1 => by
  obtain ⟨ih0, ih1, ih2⟩ := laws_FnExactLinesOf.mono_l k
  refine ⟨?_, ?_, ?_⟩
  ·intro y0 y1 y2 y3 y4 y5 y6 y7 y8 y9 y10
   unfold laws_FnExactLinesOf.j0
   repeat' first
   | (with_reducible exact ih0 _ _ _ _ _ _ _ _ _ _ _)
   | (with_reducible exact ih1 _ _ _ _ _ _ _ _)
   | (with_reducible exact ih2 _ _ _ _)
   | (with_reducible exact impl_LinesOf.mono _ _ _)
   | (with_reducible exact laws_eqParty.mono _ _ _ _ _)
   | (with_reducible exact laws_heldParty.mono _ _ _ _)
   | (with_reducible exact laws_markParty.mono _ _ _ _)
   | (with_reducible exact laws_toParty.mono _ _ _)
   | (with_reducible exact spec_LinesOf.mono _ _ _)
   | (with_reducible exact LeO.refl _)
   | (with_reducible exact LeO.none _)
   | (with_reducible refine LeO.ite ?_ ?_)
   | (with_reducible refine LeO.bind ?_ (fun _ => ?_))
   | exact ih0 _ _ _ _ _ _ _ _ _ _ _
   | exact ih1 _ _ _ _ _ _ _ _
   | exact ih2 _ _ _ _
   | exact impl_LinesOf.mono _ _ _
   | exact laws_eqParty.mono _ _ _ _ _
   | exact laws_heldParty.mono _ _ _ _
   | exact laws_markParty.mono _ _ _ _
   | exact laws_toParty.mono _ _ _
   | exact spec_LinesOf.mono _ _ _
   | exact LeO.none _
   | refine LeO.ite ?_ ?_
   | refine LeO.bind ?_ (fun _ => ?_)
  ·intro y0 y1 y2 y3 y4 y5 y6 y7
   unfold laws_FnExactLinesOf.j1
   repeat' first
   | (with_reducible exact ih0 _ _ _ _ _ _ _ _ _ _ _)
   | (with_reducible exact ih1 _ _ _ _ _ _ _ _)
   | (with_reducible exact ih2 _ _ _ _)
   | (with_reducible exact impl_LinesOf.mono _ _ _)
   | (with_reducible exact laws_eqParty.mono _ _ _ _ _)
   | (with_reducible exact laws_heldParty.mono _ _ _ _)
   | (with_reducible exact laws_markParty.mono _ _ _ _)
   | (with_reducible exact laws_toParty.mono _ _ _)
   | (with_reducible exact spec_LinesOf.mono _ _ _)
   | (with_reducible exact LeO.refl _)
   | (with_reducible exact LeO.none _)
   | (with_reducible refine LeO.ite ?_ ?_)
   | (with_reducible refine LeO.bind ?_ (fun _ => ?_))
   | exact ih0 _ _ _ _ _ _ _ _ _ _ _
   | exact ih1 _ _ _ _ _ _ _ _
   | exact ih2 _ _ _ _
   | exact impl_LinesOf.mono _ _ _
   | exact laws_eqParty.mono _ _ _ _ _
   | exact laws_heldParty.mono _ _ _ _
   | exact laws_markParty.mono _ _ _ _
   | exact laws_toParty.mono _ _ _
   | exact spec_LinesOf.mono _ _ _
   | exact LeO.none _
   | refine LeO.ite ?_ ?_
   | refine LeO.bind ?_ (fun _ => ?_)
  ·intro y0 y1 y2 y3
   unfold laws_FnExactLinesOf.j2
   repeat' first
   | (with_reducible exact ih0 _ _ _ _ _ _ _ _ _ _ _)
   | (with_reducible exact ih1 _ _ _ _ _ _ _ _)
   | (with_reducible exact ih2 _ _ _ _)
   | (with_reducible exact impl_LinesOf.mono _ _ _)
   | (with_reducible exact laws_eqParty.mono _ _ _ _ _)
   | (with_reducible exact laws_heldParty.mono _ _ _ _)
   | (with_reducible exact laws_markParty.mono _ _ _ _)
   | (with_reducible exact laws_toParty.mono _ _ _)
   | (with_reducible exact spec_LinesOf.mono _ _ _)
   | (with_reducible exact LeO.refl _)
   | (with_reducible exact LeO.none _)
   | (with_reducible refine LeO.ite ?_ ?_)
   | (with_reducible refine LeO.bind ?_ (fun _ => ?_))
   | exact ih0 _ _ _ _ _ _ _ _ _ _ _
   | exact ih1 _ _ _ _ _ _ _ _
   | exact ih2 _ _ _ _
   | exact impl_LinesOf.mono _ _ _
   | exact laws_eqParty.mono _ _ _ _ _
   | exact laws_heldParty.mono _ _ _ _
   | exact laws_markParty.mono _ _ _ _
   | exact laws_toParty.mono _ _ _
   | exact spec_LinesOf.mono _ _ _
   | exact LeO.none _
   | refine LeO.ite ?_ ?_
   | refine LeO.bind ?_ (fun _ => ?_)
theorem laws_FnExactLinesOf.mono : ∀ a0 a1 k, LeO (laws_FnExactLinesOf.f k a0 a1) (laws_FnExactLinesOf.f (k + 1) a0 a1) := by
 intro a0 a1 k
 obtain ⟨ih0, ih1, ih2⟩ := laws_FnExactLinesOf.mono_l k
 unfold laws_FnExactLinesOf.f
 repeat' first
   | (with_reducible exact ih0 _ _ _ _ _ _ _ _ _ _ _)
   | (with_reducible exact ih1 _ _ _ _ _ _ _ _)
   | (with_reducible exact ih2 _ _ _ _)
   | (with_reducible exact impl_LinesOf.mono _ _ _)
   | (with_reducible exact laws_eqParty.mono _ _ _ _ _)
   | (with_reducible exact laws_heldParty.mono _ _ _ _)
   | (with_reducible exact laws_markParty.mono _ _ _ _)
   | (with_reducible exact laws_toParty.mono _ _ _)
   | (with_reducible exact spec_LinesOf.mono _ _ _)
   | (with_reducible exact LeO.refl _)
   | (with_reducible exact LeO.none _)
   | (with_reducible refine LeO.ite ?_ ?_)
   | (with_reducible refine LeO.bind ?_ (fun _ => ?_))
   | exact ih0 _ _ _ _ _ _ _ _ _ _ _
   | exact ih1 _ _ _ _ _ _ _ _
   | exact ih2 _ _ _ _
   | exact impl_LinesOf.mono _ _ _
   | exact laws_eqParty.mono _ _ _ _ _
   | exact laws_heldParty.mono _ _ _ _
   | exact laws_markParty.mono _ _ _ _
   | exact laws_toParty.mono _ _ _
   | exact spec_LinesOf.mono _ _ _
   | exact LeO.none _
   | refine LeO.ite ?_ ?_
   | refine LeO.bind ?_ (fun _ => ?_)
set_option maxHeartbeats 8000000 in
set_option maxRecDepth 100000 in
theorem laws_FnExactLinesOf.calls (k : Nat) (a0_0 : Int) (A0_1 : Option Addr) (c0_1 : Nat) (l0_1 : List (S67)) (r : Bool) (w : World) (hr0_1 : Kd.C k67 w A0_1 l0_1.length l0_1) (hc0_1 : l0_1.length ≤ c0_1) (h : laws_FnExactLinesOf.f k a0_0 l0_1 = some r) :
  Calls Try.prog 10 #[.agg #[.int .i64 a0_0, .slice A0_1 l0_1.length c0_1]] w fun e w' => e = .returned (.bool r) ∧ Below w.heap.size w w' := by
 have hu24 := Try.underlying24
 have hu30 := Try.underlying30
 have HR0_1 := Aside0.mk hr0_1
 have HC0_1 := Aside0.mk hc0_1
 clear hr0_1 hc0_1
 have HB := Aside0.mk (Below.refl w.heap.size w)
 have H : ((laws_szParty.f a0_0 l0_1 1048576).bind fun t764 => (if t764 < 0 then (some true) else ((laws_toParty.f k a0_0 l0_1).bind fun bt765 => ((spec_LinesOf.f k bt765.1 bt765.2).bind fun bt769 => ((laws_toParty.f k a0_0 l0_1).bind fun bt775 => ((impl_LinesOf.f k bt775.1 bt775.2).bind fun bt780 => ((laws_eqParty.f k bt780.1 bt780.2.1 bt769.1 bt769.2.1).bind fun t786 => (if t786 = true then (laws_FnExactLinesOf.j0 k bt769.2.2 bt780.2.2 (bt780.2.2 != bt769.2.2) a0_0 l0_1 bt769.1 bt769.2.1 bt775.1 bt775.2 bt780.1 bt780.2.1) else (laws_FnExactLinesOf.j0 k bt769.2.2 bt780.2.2 true a0_0 l0_1 bt769.1 bt769.2.1 bt775.1 bt775.2 bt780.1 bt780.2.1))))))))) = some r := h
 clear h
 replace H := Option.bind_eq_some_iff.mp H
 obtain ⟨t764, A20, H⟩ := H
 replace H : (if t764 < 0 then (some true) else ((laws_toParty.f k a0_0 l0_1).bind fun bt765 => ((spec_LinesOf.f k bt765.1 bt765.2).bind fun bt769 => ((laws_toParty.f k a0_0 l0_1).bind fun bt775 => ((impl_LinesOf.f k bt775.1 bt775.2).bind fun bt780 => ((laws_eqParty.f k bt780.1 bt780.2.1 bt769.1 bt769.2.1).bind fun t786 => (if t786 = true then (laws_FnExactLinesOf.j0 k bt769.2.2 bt780.2.2 (bt780.2.2 != bt769.2.2) a0_0 l0_1 bt769.1 bt769.2.1 bt775.1 bt775.2 bt780.1 bt780.2.1) else (laws_FnExactLinesOf.j0 k bt769.2.2 bt780.2.2 true a0_0 l0_1 bt769.1 bt769.2.1 bt775.1 bt775.2 bt780.1 bt780.2.1)))))))) = some r := H
 have A2 := Aside0.mk A20
 clear A20
 by_cases c3 : t764 < 0
 ·rw [if_pos c3] at H
  have c3b0 : decide (t764 < 0) = true := decide_eq_true c3
  clear c3
  obtain rfl := Option.some.inj H
  go_enter Try.func10, Try.ntmps10
  go_wp2_with (first | ((with_reducible refine gate_dst (N := 1) rfl ?_); refine box_event ?hg (N := 1) ?hd (cs := #[.int .i64 a0_0, .slice A0_1 l0_1.length c0_1]) (t := 24) ?hr ?_; (case hd => rfl); (case hg => rfl); (case hr => first | (go_simp; done) | (go_simp; rfl)); intro gb763 hg w4 hbox hb; have n0_ := Aside0.mk (below_step (by repeat (first | (with_reducible first | exact HB.out | apply below_alloc | apply pw_below_drewN | apply below_drew1) | exact HB.out)) hb); have n1_ := Aside0.mk (hbox); have n2_ := Aside0.mk ((by rw [hg]; exact (below_size (by repeat (first | (with_reducible first | exact HB.out | apply below_alloc | apply pw_below_drewN | apply below_drew1) | exact HB.out))) : w.heap.size ≤ gb763)); have n3_ := n2_; clear HB; have HB := n0_; have BK763 := n1_; have GW763 := n2_; have GE763 := n3_; clear n0_ n1_ n2_ n3_; clear hb hbox hg; have hcz5_0 : w4.cell? ⟨gb763, 0, none⟩ = some (.int .i64 a0_0) := (blk_cell BK763.out 0).trans rfl; have hcz5_1 : w4.cell? ⟨gb763, 1, none⟩ = some (.slice A0_1 l0_1.length c0_1) := (blk_cell BK763.out 1).trans rfl; have hfz5_0 := blk_frozen BK763.out 0; have hfz5_1 := blk_frozen BK763.out 1) | ((with_reducible refine gate_callee (f := 11) rfl ?_); refine goesL_ (some 16) rfl rfl Try.func11 (by kernel_rfl) rfl #[.agg #[.int .i64 a0_0, .slice A0_1 l0_1.length c0_1], .int .i64 1048576] rfl (by (try simp only [List.map_toArray, List.map_cons, List.map_nil]); first | done | rfl | (simp only [List.length_drop, List.length_take]; rfl)) ?_; (with_reducible refine (laws_szParty.calls a0_0 _ _ l0_1 1048576 t764 _ ?side1 ?side2 A2.out).mono ?_); (case side1 => repeat (first | exact (Kd.C_below HR0_1.out HB.out) | (with_reducible refine Kd.C_alloc ?_ _) | (with_reducible refine Kd.C_drewN ?_ _) | (with_reducible refine Kd.C_drew ?_))); (case side2 => exact HC0_1.out); rintro e w6 ⟨rfl, hb⟩; refine ⟨_, rfl, ?_⟩; have n0_ := Aside0.mk (blk_below (g := gb763) (o := .cells #[.int .i64 a0_0, .slice A0_1 l0_1.length c0_1] 24 (0, 0)) (by (with_reducible repeat (first | refine blk_drewN ?_ _ | refine blk_drew ?_ | refine blk_alloc ?_ _)); exact BK763.out) hb); have n1_ := Aside0.mk (below_step (by repeat (first | (with_reducible first | exact HB.out | apply below_alloc | apply pw_below_drewN | apply below_drew1 | refine below_set ?_ GE763.out) | exact HB.out)) hb); clear BK763; clear HB; have BK763 := n0_; have HB := n1_; clear n0_ n1_; (try clear hb); (try clear hb2); (try clear hk); (try clear hi)))
  go_ret
  exact ⟨by first | rfl | (simp [errW_none, errW_some] <;> rfl) | (simp [*, errW_none, errW_some] <;> rfl), by repeat (first | (with_reducible first | exact HB.out | apply below_alloc | apply pw_below_drewN | apply below_drew1 | refine below_set ?_ GE763.out) | exact HB.out)⟩
 ·rw [if_neg c3] at H
  have c3b0 : decide (t764 < 0) = false := decide_eq_false c3
  clear c3
  replace H := Option.bind_eq_some_iff.mp H
  obtain ⟨⟨t765, t766⟩, A70, H⟩ := H
  replace H : ((spec_LinesOf.f k t765 t766).bind fun bt769 => ((laws_toParty.f k a0_0 l0_1).bind fun bt775 => ((impl_LinesOf.f k bt775.1 bt775.2).bind fun bt780 => ((laws_eqParty.f k bt780.1 bt780.2.1 bt769.1 bt769.2.1).bind fun t786 => (if t786 = true then (laws_FnExactLinesOf.j0 k bt769.2.2 bt780.2.2 (bt780.2.2 != bt769.2.2) a0_0 l0_1 bt769.1 bt769.2.1 bt775.1 bt775.2 bt780.1 bt780.2.1) else (laws_FnExactLinesOf.j0 k bt769.2.2 bt780.2.2 true a0_0 l0_1 bt769.1 bt769.2.1 bt775.1 bt775.2 bt780.1 bt780.2.1)))))) = some r := H
  have A7 := Aside0.mk A70
  clear A70
  replace H := Option.bind_eq_some_iff.mp H
  obtain ⟨⟨t769, t770, t773⟩, A80, H⟩ := H
  replace H : ((laws_toParty.f k a0_0 l0_1).bind fun bt775 => ((impl_LinesOf.f k bt775.1 bt775.2).bind fun bt780 => ((laws_eqParty.f k bt780.1 bt780.2.1 t769 t770).bind fun t786 => (if t786 = true then (laws_FnExactLinesOf.j0 k t773 bt780.2.2 (bt780.2.2 != t773) a0_0 l0_1 t769 t770 bt775.1 bt775.2 bt780.1 bt780.2.1) else (laws_FnExactLinesOf.j0 k t773 bt780.2.2 true a0_0 l0_1 t769 t770 bt775.1 bt775.2 bt780.1 bt780.2.1))))) = some r := H
  have A8 := Aside0.mk A80
  clear A80
  replace H := Option.bind_eq_some_iff.mp H
  obtain ⟨⟨t775, t776⟩, A90, H⟩ := H
  replace H : ((impl_LinesOf.f k t775 t776).bind fun bt780 => ((laws_eqParty.f k bt780.1 bt780.2.1 t769 t770).bind fun t786 => (if t786 = true then (laws_FnExactLinesOf.j0 k t773 bt780.2.2 (bt780.2.2 != t773) a0_0 l0_1 t769 t770 t775 t776 bt780.1 bt780.2.1) else (laws_FnExactLinesOf.j0 k t773 bt780.2.2 true a0_0 l0_1 t769 t770 t775 t776 bt780.1 bt780.2.1)))) = some r := H
  have A9 := Aside0.mk A90
  clear A90
  replace H := Option.bind_eq_some_iff.mp H
  obtain ⟨⟨t780, t781, t784⟩, A100, H⟩ := H
  replace H : ((laws_eqParty.f k t780 t781 t769 t770).bind fun t786 => (if t786 = true then (laws_FnExactLinesOf.j0 k t773 t784 (t784 != t773) a0_0 l0_1 t769 t770 t775 t776 t780 t781) else (laws_FnExactLinesOf.j0 k t773 t784 true a0_0 l0_1 t769 t770 t775 t776 t780 t781))) = some r := H
  have A10 := Aside0.mk A100
  clear A100
  have HC11 := Aside0.mk H
  clear H
  go_enter Try.func10, Try.ntmps10
  go_upto_region 8 with (first | ((with_reducible refine gate_dst (N := 1) rfl ?_); refine box_event ?hg (N := 1) ?hd (cs := #[.int .i64 a0_0, .slice A0_1 l0_1.length c0_1]) (t := 24) ?hr ?_; (case hd => rfl); (case hg => rfl); (case hr => first | (go_simp; done) | (go_simp; rfl)); intro gb763 hg w12 hbox hb; have n0_ := Aside0.mk (below_step (by repeat (first | (with_reducible first | exact HB.out | apply below_alloc | apply pw_below_drewN | apply below_drew1) | exact HB.out)) hb); have n1_ := Aside0.mk (hbox); have n2_ := Aside0.mk ((by rw [hg]; exact (below_size (by repeat (first | (with_reducible first | exact HB.out | apply below_alloc | apply pw_below_drewN | apply below_drew1) | exact HB.out))) : w.heap.size ≤ gb763)); have n3_ := n2_; clear HB; have HB := n0_; have BK763 := n1_; have GW763 := n2_; have GE763 := n3_; clear n0_ n1_ n2_ n3_; clear hb hbox hg; have hcz13_0 : w12.cell? ⟨gb763, 0, none⟩ = some (.int .i64 a0_0) := (blk_cell BK763.out 0).trans rfl; have hcz13_1 : w12.cell? ⟨gb763, 1, none⟩ = some (.slice A0_1 l0_1.length c0_1) := (blk_cell BK763.out 1).trans rfl; have hfz13_0 := blk_frozen BK763.out 0; have hfz13_1 := blk_frozen BK763.out 1) | ((with_reducible refine gate_callee (f := 11) rfl ?_); refine goesL_ (some 16) rfl rfl Try.func11 (by kernel_rfl) rfl #[.agg #[.int .i64 a0_0, .slice A0_1 l0_1.length c0_1], .int .i64 1048576] rfl (by (try simp only [List.map_toArray, List.map_cons, List.map_nil]); first | done | rfl | (simp only [List.length_drop, List.length_take]; rfl)) ?_; (with_reducible refine (laws_szParty.calls a0_0 _ _ l0_1 1048576 t764 _ ?side1 ?side2 A2.out).mono ?_); (case side1 => repeat (first | exact (Kd.C_below HR0_1.out HB.out) | (with_reducible refine Kd.C_alloc ?_ _) | (with_reducible refine Kd.C_drewN ?_ _) | (with_reducible refine Kd.C_drew ?_))); (case side2 => exact HC0_1.out); rintro e w14 ⟨rfl, hb⟩; refine ⟨_, rfl, ?_⟩; have n0_ := Aside0.mk (blk_below (g := gb763) (o := .cells #[.int .i64 a0_0, .slice A0_1 l0_1.length c0_1] 24 (0, 0)) (by (with_reducible repeat (first | refine blk_drewN ?_ _ | refine blk_drew ?_ | refine blk_alloc ?_ _)); exact BK763.out) hb); have n1_ := Aside0.mk (below_step (by repeat (first | (with_reducible first | exact HB.out | apply below_alloc | apply pw_below_drewN | apply below_drew1 | refine below_set ?_ GE763.out) | exact HB.out)) hb); clear BK763; clear HB; have BK763 := n0_; have HB := n1_; clear n0_ n1_; (try clear hb); (try clear hb2); (try clear hk); (try clear hi); have hcz15_0 : w14.cell? ⟨gb763, 0, none⟩ = some (.int .i64 a0_0) := (blk_cell BK763.out 0).trans rfl; have hcz15_1 : w14.cell? ⟨gb763, 1, none⟩ = some (.slice A0_1 l0_1.length c0_1) := (blk_cell BK763.out 1).trans rfl; have hfz15_0 := blk_frozen BK763.out 0; have hfz15_1 := blk_frozen BK763.out 1) | ((with_reducible refine gate_callee (f := 13) rfl ?_); refine goesL_ (some 21) rfl rfl Try.func13 (by kernel_rfl) rfl #[.agg #[.int .i64 a0_0, .slice A0_1 l0_1.length c0_1]] rfl (by (try simp only [List.map_toArray, List.map_cons, List.map_nil]); first | done | rfl | (simp only [List.length_drop, List.length_take]; rfl)) ?_; (with_reducible refine (laws_toParty.calls k a0_0 _ _ l0_1 t765 t766 _ ?side1 ?side2 A7.out).mono ?_); (case side1 => repeat (first | exact (Kd.C_below HR0_1.out HB.out) | (with_reducible refine Kd.C_alloc ?_ _) | (with_reducible refine Kd.C_drewN ?_ _) | (with_reducible refine Kd.C_drew ?_))); (case side2 => exact HC0_1.out); rintro e w16 ⟨v767, rfl, ho0, hb⟩; refine ⟨_, rfl, ?_⟩; have n0_ := Aside0.mk (Kd.R_lower ho0 (below_size (by repeat (first | (with_reducible first | exact HB.out | apply below_alloc | apply pw_below_drewN | apply below_drew1 | refine below_set ?_ GE763.out) | exact HB.out)))); have n1_ := Aside0.mk (blk_below (g := gb763) (o := .cells #[.int .i64 a0_0, .slice A0_1 l0_1.length c0_1] 24 (0, 0)) (by (with_reducible repeat (first | refine blk_drewN ?_ _ | refine blk_drew ?_ | refine blk_alloc ?_ _)); exact BK763.out) hb); have n2_ := Aside0.mk (below_step (by repeat (first | (with_reducible first | exact HB.out | apply below_alloc | apply pw_below_drewN | apply below_drew1 | refine below_set ?_ GE763.out) | exact HB.out)) hb); clear BK763; clear HB; have HO768 := n0_; have BK763 := n1_; have HB := n2_; clear n0_ n1_ n2_; (try clear hb); (try clear hb2); (try clear hk); (try clear hi); (try clear ho0); obtain ⟨Ao17, co17, eo17⟩ := Kd.R_slice HO768.out; subst eo17) | ((with_reducible refine gate_callee (f := 38) rfl ?_); refine goesL_ (some 22) rfl rfl Try.func38 (by kernel_rfl) rfl #[.agg #[.int .i64 t765, .slice Ao17 t766.length co17]] rfl (by (try simp only [List.map_toArray, List.map_cons, List.map_nil]); first | done | rfl | (simp only [List.length_drop, List.length_take]; rfl)) ?_; (with_reducible refine (spec_LinesOf.calls k t765 _ _ t766 t769 t770 t773 _ ?side1 ?side2 A8.out).mono ?_); (case side1 => repeat (first | exact (Kd.R_reads' HO768.out).2.2 | (with_reducible refine Kd.C_alloc ?_ _) | (with_reducible refine Kd.C_drewN ?_ _) | (with_reducible refine Kd.C_drew ?_))); (case side2 => exact (Kd.R_reads' HO768.out).2.1); rintro e w18 ⟨v771, rfl, ho0, hb⟩; refine ⟨_, rfl, ?_⟩; have n0_ := Aside0.mk (Kd.R_elder' (by (with_reducible repeat (first | apply Kd.R_alloc | apply Kd.R_drewN | apply Kd.R_drew)); exact HO768.out) (Kd.R_base ho0) hb); have n1_ := Aside0.mk (Kd.R_lower (Kd.R_new' ho0 (Kd.R_lt (by (with_reducible repeat (first | apply Kd.R_alloc | apply Kd.R_drewN | apply Kd.R_drew)); exact HO768.out))) (below_size (by repeat (first | (with_reducible first | exact HB.out | apply below_alloc | apply pw_below_drewN | apply below_drew1 | refine below_set ?_ GE763.out) | exact HB.out)))); have n2_ := Aside0.mk (blk_below (g := gb763) (o := .cells #[.int .i64 a0_0, .slice A0_1 l0_1.length c0_1] 24 (0, 0)) (by (with_reducible repeat (first | refine blk_drewN ?_ _ | refine blk_drew ?_ | refine blk_alloc ?_ _)); exact BK763.out) hb); have n3_ := Aside0.mk (below_step (by repeat (first | (with_reducible first | exact HB.out | apply below_alloc | apply pw_below_drewN | apply below_drew1 | refine below_set ?_ GE763.out) | exact HB.out)) hb); clear HO768; clear BK763; clear HB; have HO768 := n0_; have HO772 := n1_; have BK763 := n2_; have HB := n3_; clear n0_ n1_ n2_ n3_; (try clear hb); (try clear hb2); (try clear hk); (try clear hi); (try clear ho0)) | ((with_reducible refine gate_dst (N := 4) rfl ?_); refine box_event ?hg (N := 4) ?hd (cs := #[.int .i64 0, .slice none 0 0]) (t := 30) ?hr ?_; (case hd => rfl); (case hg => rfl); (case hr => first | (go_simp; done) | (go_simp; rfl)); intro gb774 hg w19 hbox hb; have n0_ := Aside0.mk (Kd.R_below (by (with_reducible repeat (first | apply Kd.R_alloc | apply Kd.R_drewN | apply Kd.R_drew)); exact HO768.out) hb); have n1_ := Aside0.mk (Kd.R_below (by (with_reducible repeat (first | apply Kd.R_alloc | apply Kd.R_drewN | apply Kd.R_drew)); exact HO772.out) hb); have n2_ := Aside0.mk (blk_below (g := gb763) (o := .cells #[.int .i64 a0_0, .slice A0_1 l0_1.length c0_1] 24 (0, 0)) (by (with_reducible repeat (first | refine blk_drewN ?_ _ | refine blk_drew ?_ | refine blk_alloc ?_ _)); exact BK763.out) hb); have n3_ := Aside0.mk (below_step (by repeat (first | (with_reducible first | exact HB.out | apply below_alloc | apply pw_below_drewN | apply below_drew1 | refine below_set ?_ GE763.out) | exact HB.out)) hb); have n4_ := Aside0.mk (hbox); have n5_ := Aside0.mk ((by rw [hg]; exact (below_size (by repeat (first | (with_reducible first | exact HB.out | apply below_alloc | apply pw_below_drewN | apply below_drew1 | refine below_set ?_ GE763.out) | exact HB.out))) : w.heap.size ≤ gb774)); have n6_ := n5_; have n7_ := Aside0.mk ((by rw [hg]; exact Nat.ne_of_lt (blk_lt (g := gb763) (o := .cells #[.int .i64 a0_0, .slice A0_1 l0_1.length c0_1] 24 (0, 0)) (by (with_reducible repeat (first | refine blk_drewN ?_ _ | refine blk_drew ?_ | refine blk_alloc ?_ _)); exact BK763.out)) : gb763 ≠ gb774)); have n8_ := Aside0.mk n7_.out.symm; clear HO768; clear HO772; clear BK763; clear HB; have HO768 := n0_; have HO772 := n1_; have BK763 := n2_; have HB := n3_; have BK774 := n4_; have GW774 := n5_; have GE774 := n6_; have NB763_774 := n7_; have NB774_763 := n8_; clear n0_ n1_ n2_ n3_ n4_ n5_ n6_ n7_ n8_; clear hb hbox hg; have hnb20 := NB774_763.out; have hnc20 := NB763_774.out; have hcz21_0 : w19.cell? ⟨gb774, 0, none⟩ = some (.int .i64 0) := (blk_cell BK774.out 0).trans rfl; have hcz21_1 : w19.cell? ⟨gb774, 1, none⟩ = some (.slice none 0 0) := (blk_cell BK774.out 1).trans rfl; have hfz21_0 := blk_frozen BK774.out 0; have hfz21_1 := blk_frozen BK774.out 1; obtain ⟨Ao22, co22, eo22⟩ := Kd.R_slice HO772.out; subst eo22; have hcz23_0 : w19.cell? ⟨gb763, 0, none⟩ = some (.int .i64 a0_0) := (blk_cell BK763.out 0).trans rfl; have hcz23_1 : w19.cell? ⟨gb763, 1, none⟩ = some (.slice A0_1 l0_1.length c0_1) := (blk_cell BK763.out 1).trans rfl; have hfz23_0 := blk_frozen BK763.out 0; have hfz23_1 := blk_frozen BK763.out 1) | ((with_reducible refine gate_callee (f := 13) rfl ?_); refine goesL_ (some 26) rfl rfl Try.func13 (by kernel_rfl) rfl #[.agg #[.int .i64 a0_0, .slice A0_1 l0_1.length c0_1]] rfl (by (try simp only [List.map_toArray, List.map_cons, List.map_nil]); first | done | rfl | (simp only [List.length_drop, List.length_take]; rfl)) ?_; (with_reducible refine (laws_toParty.calls k a0_0 _ _ l0_1 t775 t776 _ ?side1 ?side2 A9.out).mono ?_); (case side1 => exact Kd.C_below HR0_1.out (by repeat (first | (with_reducible first | exact HB.out | apply below_alloc | apply pw_below_drewN | apply below_drew1 | refine below_set ?_ GE763.out | refine below_set ?_ GE774.out) | exact HB.out))); (case side2 => exact HC0_1.out); rintro e w24 ⟨v777, rfl, ho0, hb⟩; refine ⟨_, rfl, ?_⟩; have n0_ := Aside0.mk (Kd.R_elder' (by (with_reducible repeat (first | apply Kd.R_alloc | apply Kd.R_drewN | apply Kd.R_drew)); exact (Kd.R_mono (Kd.R_far (p := ⟨gb774, 1, none⟩) (Kd.R_far (p := ⟨gb774, 0, none⟩) (Kd.R_types HO768.out BK774.out (by decide)) (fun _ hk => hk.2) (.int .i64 t769)) (fun _ hk => hk.2) (.slice Ao22 t770.length co22)) (fun _ h_ => h_.1))) (Kd.R_base ho0) hb); have n1_ := Aside0.mk (Kd.R_elder' (by (with_reducible repeat (first | apply Kd.R_alloc | apply Kd.R_drewN | apply Kd.R_drew)); exact (Kd.R_mono (Kd.R_far (p := ⟨gb774, 1, none⟩) (Kd.R_far (p := ⟨gb774, 0, none⟩) (Kd.R_types HO772.out BK774.out (by decide)) (fun _ hk => hk.2) (.int .i64 t769)) (fun _ hk => hk.2) (.slice Ao22 t770.length co22)) (fun _ h_ => h_.1))) (Kd.R_base ho0) hb); have n2_ := Aside0.mk (Kd.R_lower (Kd.R_new' (Kd.R_new' ho0 (Kd.R_lt (by (with_reducible repeat (first | apply Kd.R_alloc | apply Kd.R_drewN | apply Kd.R_drew)); exact (Kd.R_mono (Kd.R_far (p := ⟨gb774, 1, none⟩) (Kd.R_far (p := ⟨gb774, 0, none⟩) (Kd.R_types HO768.out BK774.out (by decide)) (fun _ hk => hk.2) (.int .i64 t769)) (fun _ hk => hk.2) (.slice Ao22 t770.length co22)) (fun _ h_ => h_.1))))) (Kd.R_lt (by (with_reducible repeat (first | apply Kd.R_alloc | apply Kd.R_drewN | apply Kd.R_drew)); exact (Kd.R_mono (Kd.R_far (p := ⟨gb774, 1, none⟩) (Kd.R_far (p := ⟨gb774, 0, none⟩) (Kd.R_types HO772.out BK774.out (by decide)) (fun _ hk => hk.2) (.int .i64 t769)) (fun _ hk => hk.2) (.slice Ao22 t770.length co22)) (fun _ h_ => h_.1))))) (below_size (by repeat (first | (with_reducible first | exact HB.out | apply below_alloc | apply pw_below_drewN | apply below_drew1 | refine below_set ?_ GE763.out | refine below_set ?_ GE774.out) | exact HB.out)))); have n3_ := Aside0.mk (blk_below (g := gb763) (o := .cells #[.int .i64 a0_0, .slice A0_1 l0_1.length c0_1] 24 (0, 0)) (by (with_reducible repeat (first | refine blk_drewN ?_ _ | refine blk_drew ?_ | refine blk_alloc ?_ _)); refine blk_far ?_ NB763_774.out _; (with_reducible repeat (first | refine blk_drewN ?_ _ | refine blk_drew ?_ | refine blk_alloc ?_ _)); refine blk_far ?_ NB763_774.out _; (with_reducible repeat (first | refine blk_drewN ?_ _ | refine blk_drew ?_ | refine blk_alloc ?_ _)); exact BK763.out) hb); have n4_ := Aside0.mk (blk_below (g := gb774) (o := .cells #[.int .i64 t769, .slice Ao22 t770.length co22] 30 (0, 0)) (by (with_reducible repeat (first | refine blk_drewN ?_ _ | refine blk_drew ?_ | refine blk_alloc ?_ _)); refine blk_put (cs := #[.int .i64 t769, .slice none 0 0]) ?_ 1 _ rfl; (with_reducible repeat (first | refine blk_drewN ?_ _ | refine blk_drew ?_ | refine blk_alloc ?_ _)); refine blk_put (cs := #[.int .i64 0, .slice none 0 0]) ?_ 0 _ rfl; (with_reducible repeat (first | refine blk_drewN ?_ _ | refine blk_drew ?_ | refine blk_alloc ?_ _)); exact BK774.out) hb); have n5_ := Aside0.mk (below_step (by repeat (first | (with_reducible first | exact HB.out | apply below_alloc | apply pw_below_drewN | apply below_drew1 | refine below_set ?_ GE763.out | refine below_set ?_ GE774.out) | exact HB.out)) hb); clear HO768; clear HO772; clear BK763; clear BK774; clear HB; have HO768 := n0_; have HO772 := n1_; have HO778 := n2_; have BK763 := n3_; have BK774 := n4_; have HB := n5_; clear n0_ n1_ n2_ n3_ n4_ n5_; (try clear hb); (try clear hb2); (try clear hk); (try clear hi); (try clear ho0)) | ((with_reducible refine gate_dst (N := 6) rfl ?_); refine box_event ?hg (N := 6) ?hd (cs := #[.int .i64 0, .slice none 0 0]) (t := 30) ?hr ?_; (case hd => rfl); (case hg => rfl); (case hr => first | (go_simp; done) | (go_simp; rfl)); intro gb779 hg w25 hbox hb; have n0_ := Aside0.mk (Kd.R_below (by (with_reducible repeat (first | apply Kd.R_alloc | apply Kd.R_drewN | apply Kd.R_drew)); exact HO768.out) hb); have n1_ := Aside0.mk (Kd.R_below (by (with_reducible repeat (first | apply Kd.R_alloc | apply Kd.R_drewN | apply Kd.R_drew)); exact HO772.out) hb); have n2_ := Aside0.mk (Kd.R_below (by (with_reducible repeat (first | apply Kd.R_alloc | apply Kd.R_drewN | apply Kd.R_drew)); exact HO778.out) hb); have n3_ := Aside0.mk (blk_below (g := gb763) (o := .cells #[.int .i64 a0_0, .slice A0_1 l0_1.length c0_1] 24 (0, 0)) (by (with_reducible repeat (first | refine blk_drewN ?_ _ | refine blk_drew ?_ | refine blk_alloc ?_ _)); exact BK763.out) hb); have n4_ := Aside0.mk (blk_below (g := gb774) (o := .cells #[.int .i64 t769, .slice Ao22 t770.length co22] 30 (0, 0)) (by (with_reducible repeat (first | refine blk_drewN ?_ _ | refine blk_drew ?_ | refine blk_alloc ?_ _)); exact BK774.out) hb); have n5_ := Aside0.mk (below_step (by repeat (first | (with_reducible first | exact HB.out | apply below_alloc | apply pw_below_drewN | apply below_drew1 | refine below_set ?_ GE763.out | refine below_set ?_ GE774.out) | exact HB.out)) hb); have n6_ := Aside0.mk (hbox); have n7_ := Aside0.mk ((by rw [hg]; exact (below_size (by repeat (first | (with_reducible first | exact HB.out | apply below_alloc | apply pw_below_drewN | apply below_drew1 | refine below_set ?_ GE763.out | refine below_set ?_ GE774.out) | exact HB.out))) : w.heap.size ≤ gb779)); have n8_ := n7_; have n9_ := Aside0.mk ((by rw [hg]; exact Nat.ne_of_lt (blk_lt (g := gb763) (o := .cells #[.int .i64 a0_0, .slice A0_1 l0_1.length c0_1] 24 (0, 0)) (by (with_reducible repeat (first | refine blk_drewN ?_ _ | refine blk_drew ?_ | refine blk_alloc ?_ _)); exact BK763.out)) : gb763 ≠ gb779)); have n10_ := Aside0.mk n9_.out.symm; have n11_ := Aside0.mk ((by rw [hg]; exact Nat.ne_of_lt (blk_lt (g := gb774) (o := .cells #[.int .i64 t769, .slice Ao22 t770.length co22] 30 (0, 0)) (by (with_reducible repeat (first | refine blk_drewN ?_ _ | refine blk_drew ?_ | refine blk_alloc ?_ _)); exact BK774.out)) : gb774 ≠ gb779)); have n12_ := Aside0.mk n11_.out.symm; clear HO768; clear HO772; clear HO778; clear BK763; clear BK774; clear HB; have HO768 := n0_; have HO772 := n1_; have HO778 := n2_; have BK763 := n3_; have BK774 := n4_; have HB := n5_; have BK779 := n6_; have GW779 := n7_; have GE779 := n8_; have NB763_779 := n9_; have NB779_763 := n10_; have NB774_779 := n11_; have NB779_774 := n12_; clear n0_ n1_ n2_ n3_ n4_ n5_ n6_ n7_ n8_ n9_ n10_ n11_ n12_; clear hb hbox hg; have hnb26 := NB779_763.out; have hnc26 := NB763_779.out; have hnb27 := NB779_774.out; have hnc27 := NB774_779.out; have hcz28_0 : w25.cell? ⟨gb779, 0, none⟩ = some (.int .i64 0) := (blk_cell BK779.out 0).trans rfl; have hcz28_1 : w25.cell? ⟨gb779, 1, none⟩ = some (.slice none 0 0) := (blk_cell BK779.out 1).trans rfl; have hfz28_0 := blk_frozen BK779.out 0; have hfz28_1 := blk_frozen BK779.out 1; obtain ⟨Ao29, co29, eo29⟩ := Kd.R_slice HO778.out; subst eo29) | ((with_reducible refine gate_callee (f := 39) rfl ?_); refine goesL_ (some 29) rfl rfl Try.func39 (by kernel_rfl) rfl #[.agg #[.int .i64 t775, .slice Ao29 t776.length co29]] rfl (by (try simp only [List.map_toArray, List.map_cons, List.map_nil]); first | done | rfl | (simp only [List.length_drop, List.length_take]; rfl)) ?_; (with_reducible refine (impl_LinesOf.calls k t775 _ _ t776 t780 t781 t784 _ ?side1 ?side2 A10.out).mono ?_); (case side1 => refine (Kd.R_reads' (e := 63) (base := w.heap.size) (ok := fun k_ => ((True ∧ some k_ ≠ (.slice Ao17 t766.length co17 : Value).ownBlock) ∧ some k_ ≠ (.slice Ao22 t770.length co22 : Value).ownBlock)) (n := t776.length) (c := co29) ?_).2.2; exact (by (with_reducible repeat (first | apply Kd.R_alloc | apply Kd.R_drewN | apply Kd.R_drew)); exact (Kd.R_mono (Kd.R_far (p := ⟨gb779, 1, none⟩) (Kd.R_far (p := ⟨gb779, 0, none⟩) (Kd.R_types HO778.out BK779.out (by decide)) (fun _ hk => hk.2) (.int .i64 t775)) (fun _ hk => hk.2) (.slice Ao29 t776.length co29)) (fun _ h_ => h_.1)))); (case side2 => exact (Kd.R_reads' HO778.out).2.1); rintro e w30 ⟨v782, rfl, ho0, hb⟩; refine ⟨_, rfl, ?_⟩; have n0_ := Aside0.mk (Kd.R_elder' (by (with_reducible repeat (first | apply Kd.R_alloc | apply Kd.R_drewN | apply Kd.R_drew)); exact (Kd.R_mono (Kd.R_far (p := ⟨gb779, 1, none⟩) (Kd.R_far (p := ⟨gb779, 0, none⟩) (Kd.R_types HO768.out BK779.out (by decide)) (fun _ hk => hk.2) (.int .i64 t775)) (fun _ hk => hk.2) (.slice Ao29 t776.length co29)) (fun _ h_ => h_.1))) (Kd.R_base ho0) hb); have n1_ := Aside0.mk (Kd.R_elder' (by (with_reducible repeat (first | apply Kd.R_alloc | apply Kd.R_drewN | apply Kd.R_drew)); exact (Kd.R_mono (Kd.R_far (p := ⟨gb779, 1, none⟩) (Kd.R_far (p := ⟨gb779, 0, none⟩) (Kd.R_types HO772.out BK779.out (by decide)) (fun _ hk => hk.2) (.int .i64 t775)) (fun _ hk => hk.2) (.slice Ao29 t776.length co29)) (fun _ h_ => h_.1))) (Kd.R_base ho0) hb); have n2_ := Aside0.mk (Kd.R_elder' (by (with_reducible repeat (first | apply Kd.R_alloc | apply Kd.R_drewN | apply Kd.R_drew)); exact (Kd.R_mono (Kd.R_far (p := ⟨gb779, 1, none⟩) (Kd.R_far (p := ⟨gb779, 0, none⟩) (Kd.R_types HO778.out BK779.out (by decide)) (fun _ hk => hk.2) (.int .i64 t775)) (fun _ hk => hk.2) (.slice Ao29 t776.length co29)) (fun _ h_ => h_.1))) (Kd.R_base ho0) hb); have n3_ := Aside0.mk (Kd.R_lower (Kd.R_new' (Kd.R_new' (Kd.R_new' ho0 (Kd.R_lt (by (with_reducible repeat (first | apply Kd.R_alloc | apply Kd.R_drewN | apply Kd.R_drew)); exact (Kd.R_mono (Kd.R_far (p := ⟨gb779, 1, none⟩) (Kd.R_far (p := ⟨gb779, 0, none⟩) (Kd.R_types HO768.out BK779.out (by decide)) (fun _ hk => hk.2) (.int .i64 t775)) (fun _ hk => hk.2) (.slice Ao29 t776.length co29)) (fun _ h_ => h_.1))))) (Kd.R_lt (by (with_reducible repeat (first | apply Kd.R_alloc | apply Kd.R_drewN | apply Kd.R_drew)); exact (Kd.R_mono (Kd.R_far (p := ⟨gb779, 1, none⟩) (Kd.R_far (p := ⟨gb779, 0, none⟩) (Kd.R_types HO772.out BK779.out (by decide)) (fun _ hk => hk.2) (.int .i64 t775)) (fun _ hk => hk.2) (.slice Ao29 t776.length co29)) (fun _ h_ => h_.1))))) (Kd.R_lt (by (with_reducible repeat (first | apply Kd.R_alloc | apply Kd.R_drewN | apply Kd.R_drew)); exact (Kd.R_mono (Kd.R_far (p := ⟨gb779, 1, none⟩) (Kd.R_far (p := ⟨gb779, 0, none⟩) (Kd.R_types HO778.out BK779.out (by decide)) (fun _ hk => hk.2) (.int .i64 t775)) (fun _ hk => hk.2) (.slice Ao29 t776.length co29)) (fun _ h_ => h_.1))))) (below_size (by repeat (first | (with_reducible first | exact HB.out | apply below_alloc | apply pw_below_drewN | apply below_drew1 | refine below_set ?_ GE763.out | refine below_set ?_ GE774.out | refine below_set ?_ GE779.out) | exact HB.out)))); have n4_ := Aside0.mk (blk_below (g := gb763) (o := .cells #[.int .i64 a0_0, .slice A0_1 l0_1.length c0_1] 24 (0, 0)) (by (with_reducible repeat (first | refine blk_drewN ?_ _ | refine blk_drew ?_ | refine blk_alloc ?_ _)); refine blk_far ?_ NB763_779.out _; (with_reducible repeat (first | refine blk_drewN ?_ _ | refine blk_drew ?_ | refine blk_alloc ?_ _)); refine blk_far ?_ NB763_779.out _; (with_reducible repeat (first | refine blk_drewN ?_ _ | refine blk_drew ?_ | refine blk_alloc ?_ _)); exact BK763.out) hb); have n5_ := Aside0.mk (blk_below (g := gb774) (o := .cells #[.int .i64 t769, .slice Ao22 t770.length co22] 30 (0, 0)) (by (with_reducible repeat (first | refine blk_drewN ?_ _ | refine blk_drew ?_ | refine blk_alloc ?_ _)); refine blk_far ?_ NB774_779.out _; (with_reducible repeat (first | refine blk_drewN ?_ _ | refine blk_drew ?_ | refine blk_alloc ?_ _)); refine blk_far ?_ NB774_779.out _; (with_reducible repeat (first | refine blk_drewN ?_ _ | refine blk_drew ?_ | refine blk_alloc ?_ _)); exact BK774.out) hb); have n6_ := Aside0.mk (blk_below (g := gb779) (o := .cells #[.int .i64 t775, .slice Ao29 t776.length co29] 30 (0, 0)) (by (with_reducible repeat (first | refine blk_drewN ?_ _ | refine blk_drew ?_ | refine blk_alloc ?_ _)); refine blk_put (cs := #[.int .i64 t775, .slice none 0 0]) ?_ 1 _ rfl; (with_reducible repeat (first | refine blk_drewN ?_ _ | refine blk_drew ?_ | refine blk_alloc ?_ _)); refine blk_put (cs := #[.int .i64 0, .slice none 0 0]) ?_ 0 _ rfl; (with_reducible repeat (first | refine blk_drewN ?_ _ | refine blk_drew ?_ | refine blk_alloc ?_ _)); exact BK779.out) hb); have n7_ := Aside0.mk (below_step (by repeat (first | (with_reducible first | exact HB.out | apply below_alloc | apply pw_below_drewN | apply below_drew1 | refine below_set ?_ GE763.out | refine below_set ?_ GE774.out | refine below_set ?_ GE779.out) | exact HB.out)) hb); clear HO768; clear HO772; clear HO778; clear BK763; clear BK774; clear BK779; clear HB; have HO768 := n0_; have HO772 := n1_; have HO778 := n2_; have HO783 := n3_; have BK763 := n4_; have BK774 := n5_; have BK779 := n6_; have HB := n7_; clear n0_ n1_ n2_ n3_ n4_ n5_ n6_ n7_; (try clear hb); (try clear hb2); (try clear hk); (try clear hi); (try clear ho0)) | ((with_reducible refine gate_dst (N := 7) rfl ?_); refine box_event ?hg (N := 7) ?hd (cs := #[.int .i64 0, .slice none 0 0]) (t := 30) ?hr ?_; (case hd => rfl); (case hg => rfl); (case hr => first | (go_simp; done) | (go_simp; rfl)); intro gb785 hg w31 hbox hb; have n0_ := Aside0.mk (Kd.R_below (by (with_reducible repeat (first | apply Kd.R_alloc | apply Kd.R_drewN | apply Kd.R_drew)); exact HO768.out) hb); have n1_ := Aside0.mk (Kd.R_below (by (with_reducible repeat (first | apply Kd.R_alloc | apply Kd.R_drewN | apply Kd.R_drew)); exact HO772.out) hb); have n2_ := Aside0.mk (Kd.R_below (by (with_reducible repeat (first | apply Kd.R_alloc | apply Kd.R_drewN | apply Kd.R_drew)); exact HO778.out) hb); have n3_ := Aside0.mk (Kd.R_below (by (with_reducible repeat (first | apply Kd.R_alloc | apply Kd.R_drewN | apply Kd.R_drew)); exact HO783.out) hb); have n4_ := Aside0.mk (blk_below (g := gb763) (o := .cells #[.int .i64 a0_0, .slice A0_1 l0_1.length c0_1] 24 (0, 0)) (by (with_reducible repeat (first | refine blk_drewN ?_ _ | refine blk_drew ?_ | refine blk_alloc ?_ _)); exact BK763.out) hb); have n5_ := Aside0.mk (blk_below (g := gb774) (o := .cells #[.int .i64 t769, .slice Ao22 t770.length co22] 30 (0, 0)) (by (with_reducible repeat (first | refine blk_drewN ?_ _ | refine blk_drew ?_ | refine blk_alloc ?_ _)); exact BK774.out) hb); have n6_ := Aside0.mk (blk_below (g := gb779) (o := .cells #[.int .i64 t775, .slice Ao29 t776.length co29] 30 (0, 0)) (by (with_reducible repeat (first | refine blk_drewN ?_ _ | refine blk_drew ?_ | refine blk_alloc ?_ _)); exact BK779.out) hb); have n7_ := Aside0.mk (below_step (by repeat (first | (with_reducible first | exact HB.out | apply below_alloc | apply pw_below_drewN | apply below_drew1 | refine below_set ?_ GE763.out | refine below_set ?_ GE774.out | refine below_set ?_ GE779.out) | exact HB.out)) hb); have n8_ := Aside0.mk (hbox); have n9_ := Aside0.mk ((by rw [hg]; exact (below_size (by repeat (first | (with_reducible first | exact HB.out | apply below_alloc | apply pw_below_drewN | apply below_drew1 | refine below_set ?_ GE763.out | refine below_set ?_ GE774.out | refine below_set ?_ GE779.out) | exact HB.out))) : w.heap.size ≤ gb785)); have n10_ := n9_; have n11_ := Aside0.mk ((by rw [hg]; exact Nat.ne_of_lt (blk_lt (g := gb763) (o := .cells #[.int .i64 a0_0, .slice A0_1 l0_1.length c0_1] 24 (0, 0)) (by (with_reducible repeat (first | refine blk_drewN ?_ _ | refine blk_drew ?_ | refine blk_alloc ?_ _)); exact BK763.out)) : gb763 ≠ gb785)); have n12_ := Aside0.mk n11_.out.symm; have n13_ := Aside0.mk ((by rw [hg]; exact Nat.ne_of_lt (blk_lt (g := gb774) (o := .cells #[.int .i64 t769, .slice Ao22 t770.length co22] 30 (0, 0)) (by (with_reducible repeat (first | refine blk_drewN ?_ _ | refine blk_drew ?_ | refine blk_alloc ?_ _)); exact BK774.out)) : gb774 ≠ gb785)); have n14_ := Aside0.mk n13_.out.symm; have n15_ := Aside0.mk ((by rw [hg]; exact Nat.ne_of_lt (blk_lt (g := gb779) (o := .cells #[.int .i64 t775, .slice Ao29 t776.length co29] 30 (0, 0)) (by (with_reducible repeat (first | refine blk_drewN ?_ _ | refine blk_drew ?_ | refine blk_alloc ?_ _)); exact BK779.out)) : gb779 ≠ gb785)); have n16_ := Aside0.mk n15_.out.symm; clear HO768; clear HO772; clear HO778; clear HO783; clear BK763; clear BK774; clear BK779; clear HB; have HO768 := n0_; have HO772 := n1_; have HO778 := n2_; have HO783 := n3_; have BK763 := n4_; have BK774 := n5_; have BK779 := n6_; have HB := n7_; have BK785 := n8_; have GW785 := n9_; have GE785 := n10_; have NB763_785 := n11_; have NB785_763 := n12_; have NB774_785 := n13_; have NB785_774 := n14_; have NB779_785 := n15_; have NB785_779 := n16_; clear n0_ n1_ n2_ n3_ n4_ n5_ n6_ n7_ n8_ n9_ n10_ n11_ n12_ n13_ n14_ n15_ n16_; clear hb hbox hg; have hnb32 := NB785_763.out; have hnc32 := NB763_785.out; have hnb33 := NB785_774.out; have hnc33 := NB774_785.out; have hnb34 := NB785_779.out; have hnc34 := NB779_785.out; have hcz35_0 : w31.cell? ⟨gb785, 0, none⟩ = some (.int .i64 0) := (blk_cell BK785.out 0).trans rfl; have hcz35_1 : w31.cell? ⟨gb785, 1, none⟩ = some (.slice none 0 0) := (blk_cell BK785.out 1).trans rfl; have hfz35_0 := blk_frozen BK785.out 0; have hfz35_1 := blk_frozen BK785.out 1; obtain ⟨Ao36, co36, eo36⟩ := Kd.R_slice HO783.out; subst eo36))
  (try simp only [Act.put, List.setIfInBounds_toArray, List.set_cons_zero, List.set_cons_succ])
  go_cut [40] (fun v40 wc => ∃ (kq : Nat) (x40_10 : Bool), v40 = .bool x40_10 ∧ Aside0 (laws_FnExactLinesOf.j0 kq t773 t784 x40_10 a0_0 l0_1 t769 t770 t775 t776 t780 t781 = some r) ∧ Aside0 (kq ≤ k) ∧ Aside0 (Kd.R k63 63 wc w.heap.size (fun k_ => some k_ ≠ ((.slice Ao29 t776.length co29) : Value).ownBlock ∧ some k_ ≠ ((.slice Ao36 t781.length co36) : Value).ownBlock) (.slice Ao22 t770.length co22) t770) ∧ Aside0 (Kd.R k63 63 wc w.heap.size (fun k_ => some k_ ≠ ((.slice Ao22 t770.length co22) : Value).ownBlock ∧ some k_ ≠ ((.slice Ao36 t781.length co36) : Value).ownBlock) (.slice Ao29 t776.length co29) t776) ∧ Aside0 (Kd.R k63 63 wc w.heap.size (fun k_ => some k_ ≠ ((.slice Ao22 t770.length co22) : Value).ownBlock ∧ some k_ ≠ ((.slice Ao29 t776.length co29) : Value).ownBlock) (.slice Ao36 t781.length co36) t781) ∧ Aside0 (wc.heap[gb763]? = some (.cells #[.int .i64 a0_0, (.slice A0_1 l0_1.length c0_1)] 24 (0, 0))) ∧ Aside0 (wc.heap[gb774]? = some (.cells #[.int .i64 t769, (.slice Ao22 t770.length co22)] 30 (0, 0))) ∧ Aside0 (wc.heap[gb779]? = some (.cells #[.int .i64 t775, (.slice Ao29 t776.length co29)] 30 (0, 0))) ∧ Aside0 (wc.heap[gb785]? = some (.cells #[.int .i64 t780, (.slice Ao36 t781.length co36)] 30 (0, 0))) ∧ Aside0 (Below w.heap.size w wc))
  case first =>
   have H := HC11.out
   clear HC11
   replace H := Option.bind_eq_some_iff.mp H
   obtain ⟨t786, A370, H⟩ := H
   replace H : (if t786 = true then (laws_FnExactLinesOf.j0 k t773 t784 (t784 != t773) a0_0 l0_1 t769 t770 t775 t776 t780 t781) else (laws_FnExactLinesOf.j0 k t773 t784 true a0_0 l0_1 t769 t770 t775 t776 t780 t781)) = some r := H
   have A37 := Aside0.mk A370
   clear A370
   by_cases c38 : t786 = true
   ·subst c38
    have H1 : (laws_FnExactLinesOf.j0 k t773 t784 (t784 != t773) a0_0 l0_1 t769 t770 t775 t776 t780 t781) = some r := by rw [if_pos rfl] at H; exact H
    clear H
    have H := H1
    clear H1
    have H' := Aside0.mk H
    clear H
    have hnb39 := NB785_763.out
    have hnc39 := NB763_785.out
    have hnb40 := NB785_774.out
    have hnc40 := NB774_785.out
    have hnb41 := NB785_779.out
    have hnc41 := NB779_785.out
    have hcz42_0 : w31.cell? ⟨gb785, 0, none⟩ = some (.int .i64 0) := (blk_cell BK785.out 0).trans rfl
    have hcz42_1 : w31.cell? ⟨gb785, 1, none⟩ = some (.slice none 0 0) := (blk_cell BK785.out 1).trans rfl
    have hfz42_0 := blk_frozen BK785.out 0
    have hfz42_1 := blk_frozen BK785.out 1
    have hnb43 := NB774_763.out
    have hnc43 := NB763_774.out
    have hnb44 := NB774_779.out
    have hnc44 := NB779_774.out
    have hcz45_0 : w31.cell? ⟨gb774, 0, none⟩ = some (.int .i64 t769) := (blk_cell BK774.out 0).trans rfl
    have hcz45_1 : w31.cell? ⟨gb774, 1, none⟩ = some (.slice Ao22 t770.length co22) := (blk_cell BK774.out 1).trans rfl
    have hfz45_0 := blk_frozen BK774.out 0
    have hfz45_1 := blk_frozen BK774.out 1
    go_wp2_with (first | ((with_reducible refine gate_callee (f := 15) rfl ?_); refine goesL_ (some 34) rfl rfl Try.func15 (by kernel_rfl) rfl #[.agg #[.int .i64 t780, .slice Ao36 t781.length co36], .agg #[.int .i64 t769, .slice Ao22 t770.length co22]] rfl (by (try simp only [List.map_toArray, List.map_cons, List.map_nil]); first | done | rfl | (simp only [List.length_drop, List.length_take]; rfl)) ?_; (with_reducible refine (laws_eqParty.calls k t780 _ _ t781 t769 _ _ t770 true _ ?side1 ?side2 ?side3 ?side4 A37.out).mono ?_); (case side1 => refine (Kd.R_reads' (e := 63) (base := w.heap.size) (ok := fun k_ => (((True ∧ some k_ ≠ (.slice Ao17 t766.length co17 : Value).ownBlock) ∧ some k_ ≠ (.slice Ao22 t770.length co22 : Value).ownBlock) ∧ some k_ ≠ (.slice Ao29 t776.length co29 : Value).ownBlock)) (n := t781.length) (c := co36) ?_).2.2; exact (by (with_reducible repeat (first | apply Kd.R_alloc | apply Kd.R_drewN | apply Kd.R_drew)); exact (Kd.R_mono (Kd.R_far (p := ⟨gb785, 1, none⟩) (Kd.R_far (p := ⟨gb785, 0, none⟩) (Kd.R_types HO783.out BK785.out (by decide)) (fun _ hk => hk.2) (.int .i64 t780)) (fun _ hk => hk.2) (.slice Ao36 t781.length co36)) (fun _ h_ => h_.1)))); (case side2 => exact (Kd.R_reads' HO783.out).2.1); (case side3 => refine (Kd.R_reads' (e := 63) (base := w.heap.size) (ok := fun k_ => (((True ∧ some k_ ≠ (.slice Ao17 t766.length co17 : Value).ownBlock) ∧ some k_ ≠ (.slice Ao29 t776.length co29 : Value).ownBlock) ∧ some k_ ≠ (.slice Ao36 t781.length co36 : Value).ownBlock)) (n := t770.length) (c := co22) ?_).2.2; exact (by (with_reducible repeat (first | apply Kd.R_alloc | apply Kd.R_drewN | apply Kd.R_drew)); exact (Kd.R_mono (Kd.R_far (p := ⟨gb785, 1, none⟩) (Kd.R_far (p := ⟨gb785, 0, none⟩) (Kd.R_types HO772.out BK785.out (by decide)) (fun _ hk => hk.2) (.int .i64 t780)) (fun _ hk => hk.2) (.slice Ao36 t781.length co36)) (fun _ h_ => h_.1)))); (case side4 => exact (Kd.R_reads' HO772.out).2.1); rintro e w46 ⟨rfl, hb⟩; refine ⟨_, rfl, ?_⟩; have n0_ := Aside0.mk (Kd.R_below (by (with_reducible repeat (first | apply Kd.R_alloc | apply Kd.R_drewN | apply Kd.R_drew)); exact (Kd.R_mono (Kd.R_far (p := ⟨gb785, 1, none⟩) (Kd.R_far (p := ⟨gb785, 0, none⟩) (Kd.R_types HO768.out BK785.out (by decide)) (fun _ hk => hk.2) (.int .i64 t780)) (fun _ hk => hk.2) (.slice Ao36 t781.length co36)) (fun _ h_ => h_.1))) hb); have n1_ := Aside0.mk (Kd.R_below (by (with_reducible repeat (first | apply Kd.R_alloc | apply Kd.R_drewN | apply Kd.R_drew)); exact (Kd.R_mono (Kd.R_far (p := ⟨gb785, 1, none⟩) (Kd.R_far (p := ⟨gb785, 0, none⟩) (Kd.R_types HO772.out BK785.out (by decide)) (fun _ hk => hk.2) (.int .i64 t780)) (fun _ hk => hk.2) (.slice Ao36 t781.length co36)) (fun _ h_ => h_.1))) hb); have n2_ := Aside0.mk (Kd.R_below (by (with_reducible repeat (first | apply Kd.R_alloc | apply Kd.R_drewN | apply Kd.R_drew)); exact (Kd.R_mono (Kd.R_far (p := ⟨gb785, 1, none⟩) (Kd.R_far (p := ⟨gb785, 0, none⟩) (Kd.R_types HO778.out BK785.out (by decide)) (fun _ hk => hk.2) (.int .i64 t780)) (fun _ hk => hk.2) (.slice Ao36 t781.length co36)) (fun _ h_ => h_.1))) hb); have n3_ := Aside0.mk (Kd.R_below (by (with_reducible repeat (first | apply Kd.R_alloc | apply Kd.R_drewN | apply Kd.R_drew)); exact (Kd.R_mono (Kd.R_far (p := ⟨gb785, 1, none⟩) (Kd.R_far (p := ⟨gb785, 0, none⟩) (Kd.R_types HO783.out BK785.out (by decide)) (fun _ hk => hk.2) (.int .i64 t780)) (fun _ hk => hk.2) (.slice Ao36 t781.length co36)) (fun _ h_ => h_.1))) hb); have n4_ := Aside0.mk (blk_below (g := gb763) (o := .cells #[.int .i64 a0_0, .slice A0_1 l0_1.length c0_1] 24 (0, 0)) (by (with_reducible repeat (first | refine blk_drewN ?_ _ | refine blk_drew ?_ | refine blk_alloc ?_ _)); refine blk_far ?_ NB763_785.out _; (with_reducible repeat (first | refine blk_drewN ?_ _ | refine blk_drew ?_ | refine blk_alloc ?_ _)); refine blk_far ?_ NB763_785.out _; (with_reducible repeat (first | refine blk_drewN ?_ _ | refine blk_drew ?_ | refine blk_alloc ?_ _)); exact BK763.out) hb); have n5_ := Aside0.mk (blk_below (g := gb774) (o := .cells #[.int .i64 t769, .slice Ao22 t770.length co22] 30 (0, 0)) (by (with_reducible repeat (first | refine blk_drewN ?_ _ | refine blk_drew ?_ | refine blk_alloc ?_ _)); refine blk_far ?_ NB774_785.out _; (with_reducible repeat (first | refine blk_drewN ?_ _ | refine blk_drew ?_ | refine blk_alloc ?_ _)); refine blk_far ?_ NB774_785.out _; (with_reducible repeat (first | refine blk_drewN ?_ _ | refine blk_drew ?_ | refine blk_alloc ?_ _)); exact BK774.out) hb); have n6_ := Aside0.mk (blk_below (g := gb779) (o := .cells #[.int .i64 t775, .slice Ao29 t776.length co29] 30 (0, 0)) (by (with_reducible repeat (first | refine blk_drewN ?_ _ | refine blk_drew ?_ | refine blk_alloc ?_ _)); refine blk_far ?_ NB779_785.out _; (with_reducible repeat (first | refine blk_drewN ?_ _ | refine blk_drew ?_ | refine blk_alloc ?_ _)); refine blk_far ?_ NB779_785.out _; (with_reducible repeat (first | refine blk_drewN ?_ _ | refine blk_drew ?_ | refine blk_alloc ?_ _)); exact BK779.out) hb); have n7_ := Aside0.mk (blk_below (g := gb785) (o := .cells #[.int .i64 t780, .slice Ao36 t781.length co36] 30 (0, 0)) (by (with_reducible repeat (first | refine blk_drewN ?_ _ | refine blk_drew ?_ | refine blk_alloc ?_ _)); refine blk_put (cs := #[.int .i64 t780, .slice none 0 0]) ?_ 1 _ rfl; (with_reducible repeat (first | refine blk_drewN ?_ _ | refine blk_drew ?_ | refine blk_alloc ?_ _)); refine blk_put (cs := #[.int .i64 0, .slice none 0 0]) ?_ 0 _ rfl; (with_reducible repeat (first | refine blk_drewN ?_ _ | refine blk_drew ?_ | refine blk_alloc ?_ _)); exact BK785.out) hb); have n8_ := Aside0.mk (below_step (by repeat (first | (with_reducible first | exact HB.out | apply below_alloc | apply pw_below_drewN | apply below_drew1 | refine below_set ?_ GE763.out | refine below_set ?_ GE774.out | refine below_set ?_ GE779.out | refine below_set ?_ GE785.out) | exact HB.out)) hb); clear HO768; clear HO772; clear HO778; clear HO783; clear BK763; clear BK774; clear BK779; clear BK785; clear HB; have HO768 := n0_; have HO772 := n1_; have HO778 := n2_; have HO783 := n3_; have BK763 := n4_; have BK774 := n5_; have BK779 := n6_; have BK785 := n7_; have HB := n8_; clear n0_ n1_ n2_ n3_ n4_ n5_ n6_ n7_ n8_; (try clear hb); (try clear hb2); (try clear hk); (try clear hi)))
    go_meet
    case rel => exact ⟨_, ((t784 != t773)), (by first | rfl | (simp; done) | (simp [*]; done)), H', ⟨by first | omega | exact Nat.le_refl _⟩, ⟨by (with_reducible repeat (first | apply Kd.R_alloc | apply Kd.R_drewN | apply Kd.R_drew)); exact Kd.R_mono HO772.out (fun _ hk => ⟨hk.1.2, hk.2⟩)⟩, ⟨by (with_reducible repeat (first | apply Kd.R_alloc | apply Kd.R_drewN | apply Kd.R_drew)); exact Kd.R_mono HO778.out (fun _ hk => ⟨hk.1.2, hk.2⟩)⟩, ⟨by (with_reducible repeat (first | apply Kd.R_alloc | apply Kd.R_drewN | apply Kd.R_drew)); exact Kd.R_mono HO783.out (fun _ hk => ⟨hk.1.2, hk.2⟩)⟩, ⟨by (with_reducible repeat (first | refine blk_drewN ?_ _ | refine blk_drew ?_ | refine blk_alloc ?_ _)); exact BK763.out⟩, ⟨by (with_reducible repeat (first | refine blk_drewN ?_ _ | refine blk_drew ?_ | refine blk_alloc ?_ _)); exact BK774.out⟩, ⟨by (with_reducible repeat (first | refine blk_drewN ?_ _ | refine blk_drew ?_ | refine blk_alloc ?_ _)); exact BK779.out⟩, ⟨by (with_reducible repeat (first | refine blk_drewN ?_ _ | refine blk_drew ?_ | refine blk_alloc ?_ _)); exact BK785.out⟩, ⟨by repeat (first | (with_reducible first | exact HB.out | apply below_alloc | apply pw_below_drewN | apply below_drew1 | refine below_set ?_ GE763.out | refine below_set ?_ GE774.out | refine below_set ?_ GE779.out | refine below_set ?_ GE785.out) | exact HB.out)⟩⟩
   ·replace c38 := Bool.eq_false_iff.mpr c38
    subst c38
    have H1 : (laws_FnExactLinesOf.j0 k t773 t784 true a0_0 l0_1 t769 t770 t775 t776 t780 t781) = some r := by rw [if_neg (show ¬ (false = true) by decide)] at H; exact H
    clear H
    have H := H1
    clear H1
    have H' := Aside0.mk H
    clear H
    have hnb47 := NB785_763.out
    have hnc47 := NB763_785.out
    have hnb48 := NB785_774.out
    have hnc48 := NB774_785.out
    have hnb49 := NB785_779.out
    have hnc49 := NB779_785.out
    have hcz50_0 : w31.cell? ⟨gb785, 0, none⟩ = some (.int .i64 0) := (blk_cell BK785.out 0).trans rfl
    have hcz50_1 : w31.cell? ⟨gb785, 1, none⟩ = some (.slice none 0 0) := (blk_cell BK785.out 1).trans rfl
    have hfz50_0 := blk_frozen BK785.out 0
    have hfz50_1 := blk_frozen BK785.out 1
    have hnb51 := NB774_763.out
    have hnc51 := NB763_774.out
    have hnb52 := NB774_779.out
    have hnc52 := NB779_774.out
    have hcz53_0 : w31.cell? ⟨gb774, 0, none⟩ = some (.int .i64 t769) := (blk_cell BK774.out 0).trans rfl
    have hcz53_1 : w31.cell? ⟨gb774, 1, none⟩ = some (.slice Ao22 t770.length co22) := (blk_cell BK774.out 1).trans rfl
    have hfz53_0 := blk_frozen BK774.out 0
    have hfz53_1 := blk_frozen BK774.out 1
    go_wp2_with (first | ((with_reducible refine gate_callee (f := 15) rfl ?_); refine goesL_ (some 34) rfl rfl Try.func15 (by kernel_rfl) rfl #[.agg #[.int .i64 t780, .slice Ao36 t781.length co36], .agg #[.int .i64 t769, .slice Ao22 t770.length co22]] rfl (by (try simp only [List.map_toArray, List.map_cons, List.map_nil]); first | done | rfl | (simp only [List.length_drop, List.length_take]; rfl)) ?_; (with_reducible refine (laws_eqParty.calls k t780 _ _ t781 t769 _ _ t770 false _ ?side1 ?side2 ?side3 ?side4 A37.out).mono ?_); (case side1 => refine (Kd.R_reads' (e := 63) (base := w.heap.size) (ok := fun k_ => (((True ∧ some k_ ≠ (.slice Ao17 t766.length co17 : Value).ownBlock) ∧ some k_ ≠ (.slice Ao22 t770.length co22 : Value).ownBlock) ∧ some k_ ≠ (.slice Ao29 t776.length co29 : Value).ownBlock)) (n := t781.length) (c := co36) ?_).2.2; exact (by (with_reducible repeat (first | apply Kd.R_alloc | apply Kd.R_drewN | apply Kd.R_drew)); exact (Kd.R_mono (Kd.R_far (p := ⟨gb785, 1, none⟩) (Kd.R_far (p := ⟨gb785, 0, none⟩) (Kd.R_types HO783.out BK785.out (by decide)) (fun _ hk => hk.2) (.int .i64 t780)) (fun _ hk => hk.2) (.slice Ao36 t781.length co36)) (fun _ h_ => h_.1)))); (case side2 => exact (Kd.R_reads' HO783.out).2.1); (case side3 => refine (Kd.R_reads' (e := 63) (base := w.heap.size) (ok := fun k_ => (((True ∧ some k_ ≠ (.slice Ao17 t766.length co17 : Value).ownBlock) ∧ some k_ ≠ (.slice Ao29 t776.length co29 : Value).ownBlock) ∧ some k_ ≠ (.slice Ao36 t781.length co36 : Value).ownBlock)) (n := t770.length) (c := co22) ?_).2.2; exact (by (with_reducible repeat (first | apply Kd.R_alloc | apply Kd.R_drewN | apply Kd.R_drew)); exact (Kd.R_mono (Kd.R_far (p := ⟨gb785, 1, none⟩) (Kd.R_far (p := ⟨gb785, 0, none⟩) (Kd.R_types HO772.out BK785.out (by decide)) (fun _ hk => hk.2) (.int .i64 t780)) (fun _ hk => hk.2) (.slice Ao36 t781.length co36)) (fun _ h_ => h_.1)))); (case side4 => exact (Kd.R_reads' HO772.out).2.1); rintro e w54 ⟨rfl, hb⟩; refine ⟨_, rfl, ?_⟩; have n0_ := Aside0.mk (Kd.R_below (by (with_reducible repeat (first | apply Kd.R_alloc | apply Kd.R_drewN | apply Kd.R_drew)); exact (Kd.R_mono (Kd.R_far (p := ⟨gb785, 1, none⟩) (Kd.R_far (p := ⟨gb785, 0, none⟩) (Kd.R_types HO768.out BK785.out (by decide)) (fun _ hk => hk.2) (.int .i64 t780)) (fun _ hk => hk.2) (.slice Ao36 t781.length co36)) (fun _ h_ => h_.1))) hb); have n1_ := Aside0.mk (Kd.R_below (by (with_reducible repeat (first | apply Kd.R_alloc | apply Kd.R_drewN | apply Kd.R_drew)); exact (Kd.R_mono (Kd.R_far (p := ⟨gb785, 1, none⟩) (Kd.R_far (p := ⟨gb785, 0, none⟩) (Kd.R_types HO772.out BK785.out (by decide)) (fun _ hk => hk.2) (.int .i64 t780)) (fun _ hk => hk.2) (.slice Ao36 t781.length co36)) (fun _ h_ => h_.1))) hb); have n2_ := Aside0.mk (Kd.R_below (by (with_reducible repeat (first | apply Kd.R_alloc | apply Kd.R_drewN | apply Kd.R_drew)); exact (Kd.R_mono (Kd.R_far (p := ⟨gb785, 1, none⟩) (Kd.R_far (p := ⟨gb785, 0, none⟩) (Kd.R_types HO778.out BK785.out (by decide)) (fun _ hk => hk.2) (.int .i64 t780)) (fun _ hk => hk.2) (.slice Ao36 t781.length co36)) (fun _ h_ => h_.1))) hb); have n3_ := Aside0.mk (Kd.R_below (by (with_reducible repeat (first | apply Kd.R_alloc | apply Kd.R_drewN | apply Kd.R_drew)); exact (Kd.R_mono (Kd.R_far (p := ⟨gb785, 1, none⟩) (Kd.R_far (p := ⟨gb785, 0, none⟩) (Kd.R_types HO783.out BK785.out (by decide)) (fun _ hk => hk.2) (.int .i64 t780)) (fun _ hk => hk.2) (.slice Ao36 t781.length co36)) (fun _ h_ => h_.1))) hb); have n4_ := Aside0.mk (blk_below (g := gb763) (o := .cells #[.int .i64 a0_0, .slice A0_1 l0_1.length c0_1] 24 (0, 0)) (by (with_reducible repeat (first | refine blk_drewN ?_ _ | refine blk_drew ?_ | refine blk_alloc ?_ _)); refine blk_far ?_ NB763_785.out _; (with_reducible repeat (first | refine blk_drewN ?_ _ | refine blk_drew ?_ | refine blk_alloc ?_ _)); refine blk_far ?_ NB763_785.out _; (with_reducible repeat (first | refine blk_drewN ?_ _ | refine blk_drew ?_ | refine blk_alloc ?_ _)); exact BK763.out) hb); have n5_ := Aside0.mk (blk_below (g := gb774) (o := .cells #[.int .i64 t769, .slice Ao22 t770.length co22] 30 (0, 0)) (by (with_reducible repeat (first | refine blk_drewN ?_ _ | refine blk_drew ?_ | refine blk_alloc ?_ _)); refine blk_far ?_ NB774_785.out _; (with_reducible repeat (first | refine blk_drewN ?_ _ | refine blk_drew ?_ | refine blk_alloc ?_ _)); refine blk_far ?_ NB774_785.out _; (with_reducible repeat (first | refine blk_drewN ?_ _ | refine blk_drew ?_ | refine blk_alloc ?_ _)); exact BK774.out) hb); have n6_ := Aside0.mk (blk_below (g := gb779) (o := .cells #[.int .i64 t775, .slice Ao29 t776.length co29] 30 (0, 0)) (by (with_reducible repeat (first | refine blk_drewN ?_ _ | refine blk_drew ?_ | refine blk_alloc ?_ _)); refine blk_far ?_ NB779_785.out _; (with_reducible repeat (first | refine blk_drewN ?_ _ | refine blk_drew ?_ | refine blk_alloc ?_ _)); refine blk_far ?_ NB779_785.out _; (with_reducible repeat (first | refine blk_drewN ?_ _ | refine blk_drew ?_ | refine blk_alloc ?_ _)); exact BK779.out) hb); have n7_ := Aside0.mk (blk_below (g := gb785) (o := .cells #[.int .i64 t780, .slice Ao36 t781.length co36] 30 (0, 0)) (by (with_reducible repeat (first | refine blk_drewN ?_ _ | refine blk_drew ?_ | refine blk_alloc ?_ _)); refine blk_put (cs := #[.int .i64 t780, .slice none 0 0]) ?_ 1 _ rfl; (with_reducible repeat (first | refine blk_drewN ?_ _ | refine blk_drew ?_ | refine blk_alloc ?_ _)); refine blk_put (cs := #[.int .i64 0, .slice none 0 0]) ?_ 0 _ rfl; (with_reducible repeat (first | refine blk_drewN ?_ _ | refine blk_drew ?_ | refine blk_alloc ?_ _)); exact BK785.out) hb); have n8_ := Aside0.mk (below_step (by repeat (first | (with_reducible first | exact HB.out | apply below_alloc | apply pw_below_drewN | apply below_drew1 | refine below_set ?_ GE763.out | refine below_set ?_ GE774.out | refine below_set ?_ GE779.out | refine below_set ?_ GE785.out) | exact HB.out)) hb); clear HO768; clear HO772; clear HO778; clear HO783; clear BK763; clear BK774; clear BK779; clear BK785; clear HB; have HO768 := n0_; have HO772 := n1_; have HO778 := n2_; have HO783 := n3_; have BK763 := n4_; have BK774 := n5_; have BK779 := n6_; have BK785 := n7_; have HB := n8_; clear n0_ n1_ n2_ n3_ n4_ n5_ n6_ n7_ n8_; (try clear hb); (try clear hb2); (try clear hk); (try clear hi)))
    go_meet
    case rel => exact ⟨_, (true), (by first | rfl | (simp; done) | (simp [*]; done)), H', ⟨by first | omega | exact Nat.le_refl _⟩, ⟨by (with_reducible repeat (first | apply Kd.R_alloc | apply Kd.R_drewN | apply Kd.R_drew)); exact Kd.R_mono HO772.out (fun _ hk => ⟨hk.1.2, hk.2⟩)⟩, ⟨by (with_reducible repeat (first | apply Kd.R_alloc | apply Kd.R_drewN | apply Kd.R_drew)); exact Kd.R_mono HO778.out (fun _ hk => ⟨hk.1.2, hk.2⟩)⟩, ⟨by (with_reducible repeat (first | apply Kd.R_alloc | apply Kd.R_drewN | apply Kd.R_drew)); exact Kd.R_mono HO783.out (fun _ hk => ⟨hk.1.2, hk.2⟩)⟩, ⟨by (with_reducible repeat (first | refine blk_drewN ?_ _ | refine blk_drew ?_ | refine blk_alloc ?_ _)); exact BK763.out⟩, ⟨by (with_reducible repeat (first | refine blk_drewN ?_ _ | refine blk_drew ?_ | refine blk_alloc ?_ _)); exact BK774.out⟩, ⟨by (with_reducible repeat (first | refine blk_drewN ?_ _ | refine blk_drew ?_ | refine blk_alloc ?_ _)); exact BK779.out⟩, ⟨by (with_reducible repeat (first | refine blk_drewN ?_ _ | refine blk_drew ?_ | refine blk_alloc ?_ _)); exact BK785.out⟩, ⟨by repeat (first | (with_reducible first | exact HB.out | apply below_alloc | apply pw_below_drewN | apply below_drew1 | refine below_set ?_ GE763.out | refine below_set ?_ GE774.out | refine below_set ?_ GE779.out | refine below_set ?_ GE785.out) | exact HB.out)⟩⟩
  case rest =>
   clear HC11
   try clear c1
   try clear c2
   try clear p2
   try clear c3
   try clear c3b0
   try clear c4
   try clear c5
   try clear c10
   try clear c11
   try clear c13
   try clear c15
   try clear c20
   try clear c26
   try clear c27
   try clear c32
   try clear c33
   try clear c34
   try clear c38
   try clear c39
   try clear c40
   try clear c41
   try clear c43
   try clear c44
   try clear c47
   try clear c48
   try clear c49
   try clear c51
   try clear c52
   try clear hcz13_0
   try clear hcz13_1
   try clear hcz15_0
   try clear hcz15_1
   try clear hcz21_0
   try clear hcz21_1
   try clear hcz23_0
   try clear hcz23_1
   try clear hcz28_0
   try clear hcz28_1
   try clear hcz35_0
   try clear hcz35_1
   try clear hcz42_0
   try clear hcz42_1
   try clear hcz45_0
   try clear hcz45_1
   try clear hcz50_0
   try clear hcz50_1
   try clear hcz53_0
   try clear hcz53_1
   try clear hcz5_0
   try clear hcz5_1
   try clear hfz13_0
   try clear hfz13_1
   try clear hfz15_0
   try clear hfz15_1
   try clear hfz21_0
   try clear hfz21_1
   try clear hfz23_0
   try clear hfz23_1
   try clear hfz28_0
   try clear hfz28_1
   try clear hfz35_0
   try clear hfz35_1
   try clear hfz42_0
   try clear hfz42_1
   try clear hfz45_0
   try clear hfz45_1
   try clear hfz50_0
   try clear hfz50_1
   try clear hfz53_0
   try clear hfz53_1
   try clear hfz5_0
   try clear hfz5_1
   obtain ⟨kq, x40_10, rfl, HA, HJ10, HO_775001, HO_780001, HO_786001, BK763, BK774, BK779, BK785, HB⟩ := hcut
   cases kq with
   | zero => exact absurd HA.out (by simp [laws_FnExactLinesOf.j0])
   | succ kj10 =>
    have H := HA.out
    clear HA
    simp only [laws_FnExactLinesOf.j0] at H
    by_cases c55 : x40_10 = true
    ·subst c55
     have H1 : (some false) = some r := by rw [if_pos rfl] at H; exact H
     clear H
     have H := H1
     clear H1
     obtain rfl := Option.some.inj H
     go_wp2
     go_ret
     exact ⟨by first | rfl | (simp [errW_none, errW_some] <;> rfl) | (simp [*, errW_none, errW_some] <;> rfl), by repeat (first | (with_reducible first | exact HB.out | apply below_alloc | apply pw_below_drewN | apply below_drew1 | refine below_set ?_ GE763.out | refine below_set ?_ GE774.out | refine below_set ?_ GE779.out | refine below_set ?_ GE785.out) | exact HB.out)⟩
    ·replace c55 := Bool.eq_false_iff.mpr c55
     subst c55
     have H1 : ((laws_toParty.f kj10 a0_0 l0_1).bind fun bt787 => ((laws_eqParty.f kj10 t775 t776 bt787.1 bt787.2).bind fun t791 => (if t791 = true then ((laws_markParty.f kj10 t775 t776 1).bind fun bt792 => (if bt792.1 < 0 then (laws_FnExactLinesOf.j1 kj10 t773 true a0_0 l0_1 t769 t770 t780 t781) else ((laws_eqParty.f kj10 t780 t781 t769 t770).bind fun t794 => (if t794 = true then (laws_FnExactLinesOf.j1 kj10 t773 (t784 != t773) a0_0 l0_1 t769 t770 t780 t781) else (laws_FnExactLinesOf.j1 kj10 t773 true a0_0 l0_1 t769 t770 t780 t781))))) else (some false)))) = some r := by rw [if_neg (show ¬ (false = true) by decide)] at H; exact H
     clear H
     have H := H1
     clear H1
     replace H := Option.bind_eq_some_iff.mp H
     obtain ⟨⟨t787, t788⟩, A560, H⟩ := H
     replace H : ((laws_eqParty.f kj10 t775 t776 t787 t788).bind fun t791 => (if t791 = true then ((laws_markParty.f kj10 t775 t776 1).bind fun bt792 => (if bt792.1 < 0 then (laws_FnExactLinesOf.j1 kj10 t773 true a0_0 l0_1 t769 t770 t780 t781) else ((laws_eqParty.f kj10 t780 t781 t769 t770).bind fun t794 => (if t794 = true then (laws_FnExactLinesOf.j1 kj10 t773 (t784 != t773) a0_0 l0_1 t769 t770 t780 t781) else (laws_FnExactLinesOf.j1 kj10 t773 true a0_0 l0_1 t769 t770 t780 t781))))) else (some false))) = some r := H
     have A56 := Aside0.mk A560
     clear A560
     replace H := Option.bind_eq_some_iff.mp H
     obtain ⟨t791, A570, H⟩ := H
     replace H : (if t791 = true then ((laws_markParty.f kj10 t775 t776 1).bind fun bt792 => (if bt792.1 < 0 then (laws_FnExactLinesOf.j1 kj10 t773 true a0_0 l0_1 t769 t770 t780 t781) else ((laws_eqParty.f kj10 t780 t781 t769 t770).bind fun t794 => (if t794 = true then (laws_FnExactLinesOf.j1 kj10 t773 (t784 != t773) a0_0 l0_1 t769 t770 t780 t781) else (laws_FnExactLinesOf.j1 kj10 t773 true a0_0 l0_1 t769 t770 t780 t781))))) else (some false)) = some r := H
     have A57 := Aside0.mk A570
     clear A570
     by_cases c58 : t791 = true
     ·subst c58
      have H1 : ((laws_markParty.f kj10 t775 t776 1).bind fun bt792 => (if bt792.1 < 0 then (laws_FnExactLinesOf.j1 kj10 t773 true a0_0 l0_1 t769 t770 t780 t781) else ((laws_eqParty.f kj10 t780 t781 t769 t770).bind fun t794 => (if t794 = true then (laws_FnExactLinesOf.j1 kj10 t773 (t784 != t773) a0_0 l0_1 t769 t770 t780 t781) else (laws_FnExactLinesOf.j1 kj10 t773 true a0_0 l0_1 t769 t770 t780 t781))))) = some r := by rw [if_pos rfl] at H; exact H
      clear H
      have H := H1
      clear H1
      replace H := Option.bind_eq_some_iff.mp H
      obtain ⟨⟨t792, t793⟩, A590, H⟩ := H
      replace H : (if t792 < 0 then (laws_FnExactLinesOf.j1 kj10 t773 true a0_0 l0_1 t769 t770 t780 t781) else ((laws_eqParty.f kj10 t780 t781 t769 t770).bind fun t794 => (if t794 = true then (laws_FnExactLinesOf.j1 kj10 t773 (t784 != t773) a0_0 l0_1 t769 t770 t780 t781) else (laws_FnExactLinesOf.j1 kj10 t773 true a0_0 l0_1 t769 t770 t780 t781)))) = some r := H
      have A59 := Aside0.mk A590
      clear A590
      have HC60 := Aside0.mk H
      clear H
      try go_wp2
      have n0_ := Aside0.mk (Kd.R_drew HO_775001.out)
      have n1_ := Aside0.mk (Kd.R_drew HO_780001.out)
      have n2_ := Aside0.mk (Kd.R_drew HO_786001.out)
      have n3_ := Aside0.mk (blk_drew BK763.out)
      have n4_ := Aside0.mk (blk_drew BK774.out)
      have n5_ := Aside0.mk (blk_drew BK779.out)
      have n6_ := Aside0.mk (blk_drew BK785.out)
      have n7_ := Aside0.mk (below_drew1 HB.out)
      clear HO_775001
      clear HO_780001
      clear HO_786001
      clear BK763
      clear BK774
      clear BK779
      clear BK785
      clear HB
      have HO_775001 := n0_
      have HO_780001 := n1_
      have HO_786001 := n2_
      have BK763 := n3_
      have BK774 := n4_
      have BK779 := n5_
      have BK785 := n6_
      have HB := n7_
      clear n0_ n1_ n2_ n3_ n4_ n5_ n6_ n7_
      refine start_ (n := 5) (S := fun w' => w'.cell? ⟨gb779, 0, none⟩ = some (.int .i64 t775) ∧ w'.cell? ⟨gb779, 1, none⟩ = some (.slice Ao29 t776.length co29) ∧ w'.cell? ⟨gb763, 0, none⟩ = some (.int .i64 a0_0) ∧ w'.cell? ⟨gb763, 1, none⟩ = some (.slice A0_1 l0_1.length c0_1)) (ds := []) #[false, false, false, false, false] (by kernel_rfl) rfl rfl ⟨(blk_cell BK779.out 0).trans rfl, (blk_cell BK779.out 1).trans rfl, (blk_cell BK763.out 0).trans rfl, (blk_cell BK763.out 1).trans rfl⟩ (fun hHeld => ?_)
      generalize wc.drew = w61 at HO_775001 HO_780001 HO_786001 BK763 BK774 BK779 BK785 HB hHeld ⊢
      refine take_ (i := 0) (N := some 41) (v := ?_) (a' := ?_) #[true, false, false, false, false] rfl rfl (by kernel_rfl) (fun _ _ _ h => h) (Or.inl ⟨by rfl, ?_⟩) hHeld ?_ ?_
      rotate_left
      ·rintro w' ⟨s0, s1, s2, s3⟩
       go_simp
       with_reducible rfl
      rotate_left
      ·simp only [Act.put, List.setIfInBounds_toArray, List.set_cons_zero, List.set_cons_succ, i64_w, i32_w]
       rfl
      refine take_ (i := 1) (N := some 42) (v := ?_) (a' := ?_) #[true, true, false, false, false] rfl rfl (by kernel_rfl) (fun _ _ _ h => h) (Or.inl ⟨by rfl, ?_⟩) hHeld ?_ ?_
      rotate_left
      ·rintro w' ⟨s0, s1, s2, s3⟩
       go_simp
       with_reducible rfl
      rotate_left
      ·simp only [Act.put, List.setIfInBounds_toArray, List.set_cons_zero, List.set_cons_succ, i64_w, i32_w]
       rfl
      refine one_ (i := 2) (N := some 43) #[true, true, true, false, false] rfl rfl (by kernel_rfl) (by decide) (fun K hK => ?_)
      refine goes_ Try.func13 (by kernel_rfl) rfl #[.agg #[.int .i64 a0_0, .slice A0_1 l0_1.length c0_1]] (by rfl) rfl rfl (by (try simp only [List.map_toArray, List.map_cons, List.map_nil]); first | done | rfl | (simp only [List.length_drop, List.length_take]; rfl)) ?_
      with_reducible refine (laws_toParty.calls kj10 a0_0 _ _ l0_1 t787 t788 _ ?side1 ?side2 A56.out).mono ?_
      (case side1 => repeat (first | exact (Kd.C_below HR0_1.out HB.out) | (with_reducible refine Kd.C_alloc ?_ _) | (with_reducible refine Kd.C_drewN ?_ _) | (with_reducible refine Kd.C_drew ?_)))
      (case side2 => exact HC0_1.out)
      rintro e w62 ⟨v789, rfl, ho0, hb⟩
      refine ⟨_, rfl, ?_⟩
      have n0_ := Aside0.mk (Kd.R_elder' (by (with_reducible repeat (first | apply Kd.R_alloc | apply Kd.R_drewN | apply Kd.R_drew)); exact HO_775001.out) (Kd.R_base ho0) hb)
      have n1_ := Aside0.mk (Kd.R_elder' (by (with_reducible repeat (first | apply Kd.R_alloc | apply Kd.R_drewN | apply Kd.R_drew)); exact HO_780001.out) (Kd.R_base ho0) hb)
      have n2_ := Aside0.mk (Kd.R_elder' (by (with_reducible repeat (first | apply Kd.R_alloc | apply Kd.R_drewN | apply Kd.R_drew)); exact HO_786001.out) (Kd.R_base ho0) hb)
      have n3_ := Aside0.mk (Kd.R_lower (Kd.R_new' (Kd.R_new' (Kd.R_new' ho0 (Kd.R_lt (by (with_reducible repeat (first | apply Kd.R_alloc | apply Kd.R_drewN | apply Kd.R_drew)); exact HO_775001.out))) (Kd.R_lt (by (with_reducible repeat (first | apply Kd.R_alloc | apply Kd.R_drewN | apply Kd.R_drew)); exact HO_780001.out))) (Kd.R_lt (by (with_reducible repeat (first | apply Kd.R_alloc | apply Kd.R_drewN | apply Kd.R_drew)); exact HO_786001.out))) (below_size (by repeat (first | (with_reducible first | exact HB.out | apply below_alloc | apply pw_below_drewN | apply below_drew1 | refine below_set ?_ GE763.out | refine below_set ?_ GE774.out | refine below_set ?_ GE779.out | refine below_set ?_ GE785.out) | exact HB.out))))
      have n4_ := Aside0.mk (blk_below (g := gb763) (o := .cells #[.int .i64 a0_0, .slice A0_1 l0_1.length c0_1] 24 (0, 0)) (by (with_reducible repeat (first | refine blk_drewN ?_ _ | refine blk_drew ?_ | refine blk_alloc ?_ _)); exact BK763.out) hb)
      have n5_ := Aside0.mk (blk_below (g := gb774) (o := .cells #[.int .i64 t769, .slice Ao22 t770.length co22] 30 (0, 0)) (by (with_reducible repeat (first | refine blk_drewN ?_ _ | refine blk_drew ?_ | refine blk_alloc ?_ _)); exact BK774.out) hb)
      have n6_ := Aside0.mk (blk_below (g := gb779) (o := .cells #[.int .i64 t775, .slice Ao29 t776.length co29] 30 (0, 0)) (by (with_reducible repeat (first | refine blk_drewN ?_ _ | refine blk_drew ?_ | refine blk_alloc ?_ _)); exact BK779.out) hb)
      have n7_ := Aside0.mk (blk_below (g := gb785) (o := .cells #[.int .i64 t780, .slice Ao36 t781.length co36] 30 (0, 0)) (by (with_reducible repeat (first | refine blk_drewN ?_ _ | refine blk_drew ?_ | refine blk_alloc ?_ _)); exact BK785.out) hb)
      have n8_ := Aside0.mk (below_step (by repeat (first | (with_reducible first | exact HB.out | apply below_alloc | apply pw_below_drewN | apply below_drew1 | refine below_set ?_ GE763.out | refine below_set ?_ GE774.out | refine below_set ?_ GE779.out | refine below_set ?_ GE785.out) | exact HB.out)) hb)
      clear HO_775001
      clear HO_780001
      clear HO_786001
      clear BK763
      clear BK774
      clear BK779
      clear BK785
      clear HB
      have HO_775001 := n0_
      have HO_780001 := n1_
      have HO_786001 := n2_
      have HO790 := n3_
      have BK763 := n4_
      have BK774 := n5_
      have BK779 := n6_
      have BK785 := n7_
      have HB := n8_
      clear n0_ n1_ n2_ n3_ n4_ n5_ n6_ n7_ n8_
      (try clear hb)
      (try clear hb2)
      (try clear hk)
      (try clear hi)
      (try clear ho0)
      obtain ⟨Ao63, co63, eo63⟩ := Kd.R_slice HO790.out
      (first | subst eo63 | (injection eo63 with f1_ f2_ f3_; have f4_ := f1_.symm; have f5_ := f3_.symm; clear f1_ f2_ f3_; subst f4_; subst f5_))
      refine hK.out _ _ ⟨(blk_cell BK779.out 0).trans rfl, (blk_cell BK779.out 1).trans rfl, (blk_cell BK763.out 0).trans rfl, (blk_cell BK763.out 1).trans rfl⟩ (fun hHeld => ?_)
      clear hK K
      refine norm_ (a' := ?_) ?_ ?_
      rotate_left
      ·show Act.put _ (some 43) _ = _
       simp only [Act.put, List.setIfInBounds_toArray, List.set_cons_zero, List.set_cons_succ, i64_w, i32_w]
       rfl
      refine one_ (i := 3) (N := some 44) #[true, true, true, true, false] rfl rfl (by kernel_rfl) (by decide) (fun K hK => ?_)
      refine goes_ Try.func15 (by kernel_rfl) rfl #[.agg #[.int .i64 t775, .slice Ao29 t776.length co29], .agg #[.int .i64 t787, .slice Ao63 t788.length co63]] (by rfl) rfl rfl (by (try simp only [List.map_toArray, List.map_cons, List.map_nil]); first | done | rfl | (simp only [List.length_drop, List.length_take]; rfl)) ?_
      with_reducible refine (laws_eqParty.calls kj10 t775 _ _ t776 t787 _ _ t788 true _ ?side1 ?side2 ?side3 ?side4 A57.out).mono ?_
      (case side1 => repeat (first | exact (Kd.R_reads' HO_780001.out).2.2 | (with_reducible refine Kd.C_alloc ?_ _) | (with_reducible refine Kd.C_drewN ?_ _) | (with_reducible refine Kd.C_drew ?_)))
      (case side2 => exact (Kd.R_reads' HO_780001.out).2.1)
      (case side3 => repeat (first | exact (Kd.R_reads' HO790.out).2.2 | (with_reducible refine Kd.C_alloc ?_ _) | (with_reducible refine Kd.C_drewN ?_ _) | (with_reducible refine Kd.C_drew ?_)))
      (case side4 => exact (Kd.R_reads' HO790.out).2.1)
      rintro e w64 ⟨rfl, hb⟩
      refine ⟨_, rfl, ?_⟩
      have n0_ := Aside0.mk (Kd.R_below (by (with_reducible repeat (first | apply Kd.R_alloc | apply Kd.R_drewN | apply Kd.R_drew)); exact HO_775001.out) hb)
      have n1_ := Aside0.mk (Kd.R_below (by (with_reducible repeat (first | apply Kd.R_alloc | apply Kd.R_drewN | apply Kd.R_drew)); exact HO_780001.out) hb)
      have n2_ := Aside0.mk (Kd.R_below (by (with_reducible repeat (first | apply Kd.R_alloc | apply Kd.R_drewN | apply Kd.R_drew)); exact HO_786001.out) hb)
      have n3_ := Aside0.mk (Kd.R_below (by (with_reducible repeat (first | apply Kd.R_alloc | apply Kd.R_drewN | apply Kd.R_drew)); exact HO790.out) hb)
      have n4_ := Aside0.mk (blk_below (g := gb763) (o := .cells #[.int .i64 a0_0, .slice A0_1 l0_1.length c0_1] 24 (0, 0)) (by (with_reducible repeat (first | refine blk_drewN ?_ _ | refine blk_drew ?_ | refine blk_alloc ?_ _)); exact BK763.out) hb)
      have n5_ := Aside0.mk (blk_below (g := gb774) (o := .cells #[.int .i64 t769, .slice Ao22 t770.length co22] 30 (0, 0)) (by (with_reducible repeat (first | refine blk_drewN ?_ _ | refine blk_drew ?_ | refine blk_alloc ?_ _)); exact BK774.out) hb)
      have n6_ := Aside0.mk (blk_below (g := gb779) (o := .cells #[.int .i64 t775, .slice Ao29 t776.length co29] 30 (0, 0)) (by (with_reducible repeat (first | refine blk_drewN ?_ _ | refine blk_drew ?_ | refine blk_alloc ?_ _)); exact BK779.out) hb)
      have n7_ := Aside0.mk (blk_below (g := gb785) (o := .cells #[.int .i64 t780, .slice Ao36 t781.length co36] 30 (0, 0)) (by (with_reducible repeat (first | refine blk_drewN ?_ _ | refine blk_drew ?_ | refine blk_alloc ?_ _)); exact BK785.out) hb)
      have n8_ := Aside0.mk (below_step (by repeat (first | (with_reducible first | exact HB.out | apply below_alloc | apply pw_below_drewN | apply below_drew1 | refine below_set ?_ GE763.out | refine below_set ?_ GE774.out | refine below_set ?_ GE779.out | refine below_set ?_ GE785.out) | exact HB.out)) hb)
      clear HO_775001
      clear HO_780001
      clear HO_786001
      clear HO790
      clear BK763
      clear BK774
      clear BK779
      clear BK785
      clear HB
      have HO_775001 := n0_
      have HO_780001 := n1_
      have HO_786001 := n2_
      have HO790 := n3_
      have BK763 := n4_
      have BK774 := n5_
      have BK779 := n6_
      have BK785 := n7_
      have HB := n8_
      clear n0_ n1_ n2_ n3_ n4_ n5_ n6_ n7_ n8_
      (try clear hb)
      (try clear hb2)
      (try clear hk)
      (try clear hi)
      refine hK.out _ _ ⟨(blk_cell BK779.out 0).trans rfl, (blk_cell BK779.out 1).trans rfl, (blk_cell BK763.out 0).trans rfl, (blk_cell BK763.out 1).trans rfl⟩ (fun hHeld => ?_)
      clear hK K
      refine norm_ (a' := ?_) ?_ ?_
      rotate_left
      ·show Act.put _ (some 44) _ = _
       simp only [Act.put, List.setIfInBounds_toArray, List.set_cons_zero, List.set_cons_succ, i64_w, i32_w]
       rfl
      refine pure_ (i := 4) (N := some 45) (v := ?_) (a' := ?_) #[true, true, true, true, true] rfl rfl (by kernel_rfl) (fun _ _ _ h => h) (Or.inl ⟨by rfl, ?_⟩) ?_ ?_
      rotate_left
      ·intro w'
       go_simp
       with_reducible rfl
      rotate_left
      ·simp only [Act.put, List.setIfInBounds_toArray, List.set_cons_zero, List.set_cons_succ, i64_w, i32_w]
       rfl
      refine done_ (by kernel_rfl) ?_
      have hnb65 := NB779_763.out
      have hnc65 := NB763_779.out
      have hnb66 := NB779_774.out
      have hnc66 := NB774_779.out
      have hnb67 := NB779_785.out
      have hnc67 := NB785_779.out
      have hcz68_0 : w64.cell? ⟨gb779, 0, none⟩ = some (.int .i64 t775) := (blk_cell BK779.out 0).trans rfl
      have hcz68_1 : w64.cell? ⟨gb779, 1, none⟩ = some (.slice Ao29 t776.length co29) := (blk_cell BK779.out 1).trans rfl
      have hfz68_0 := blk_frozen BK779.out 0
      have hfz68_1 := blk_frozen BK779.out 1
      go_upto_region 14 with (first | ((with_reducible refine gate_callee (f := 30) rfl ?_); refine goesL_ (some 48) rfl rfl Try.func30 (by kernel_rfl) rfl #[.agg #[.int .i64 t775, .slice Ao29 t776.length co29], .int .i64 1] rfl (by (try simp only [List.map_toArray, List.map_cons, List.map_nil]); first | done | rfl | (simp only [List.length_drop, List.length_take]; rfl)) ?_; (with_reducible refine (laws_markParty.calls kj10 t775 (fun k_ => some k_ = (.slice Ao29 t776.length co29 : Value).ownBlock) (.slice Ao29 t776.length co29) t776 1 t792 t793 w _ ?side1 ?side2 A59.out).mono ?_); (case side1 => repeat (first | (with_reducible first | exact HB.out | apply below_alloc | apply pw_below_drewN | apply below_drew1 | refine below_set ?_ GE763.out | refine below_set ?_ GE774.out | refine below_set ?_ GE779.out | refine below_set ?_ GE785.out) | exact HB.out)); (case side2 => exact Kd.R_tight rfl HO_780001.out); rintro e w69 ⟨rfl, hy0, hb, hkp⟩; refine ⟨_, rfl, ?_⟩; have n0_ := Aside0.mk (Kd.R_mono (ok' := fun k_ => some k_ ≠ (.slice Ao29 t776.length co29 : Value).ownBlock ∧ some k_ ≠ (.slice Ao36 t781.length co36 : Value).ownBlock ∧ some k_ ≠ (.slice Ao63 t788.length co63 : Value).ownBlock) (Kd.R_keptB (HO_775001.out) hkp (fun k_ hk_ hs_ => (hk_.1.1) hs_)) (fun k_ hk_ => ⟨hk_.1.1.1, hk_.1.1.2, hk_.1.2⟩)); have n1_ := Aside0.mk (Kd.R_reok rfl hy0 (fun k_ e_ => HO_780001.out.1 k_ e_)); have n2_ := Aside0.mk (Kd.R_mono (ok' := fun k_ => some k_ ≠ (.slice Ao22 t770.length co22 : Value).ownBlock ∧ some k_ ≠ (.slice Ao29 t776.length co29 : Value).ownBlock ∧ some k_ ≠ (.slice Ao63 t788.length co63 : Value).ownBlock) (Kd.R_keptB (HO_786001.out) hkp (fun k_ hk_ hs_ => (hk_.1.2) hs_)) (fun k_ hk_ => ⟨hk_.1.1.1, hk_.1.1.2, hk_.1.2⟩)); have n3_ := Aside0.mk (blk_kept (by (with_reducible repeat (first | refine blk_drewN ?_ _ | refine blk_drew ?_ | refine blk_alloc ?_ _)); exact BK763.out) hkp (fun hs_ => (fun e_ => (Kd.R_ne HO_780001.out BK763.out (by decide)) e_) hs_)); have n4_ := Aside0.mk (blk_kept (by (with_reducible repeat (first | refine blk_drewN ?_ _ | refine blk_drew ?_ | refine blk_alloc ?_ _)); exact BK774.out) hkp (fun hs_ => (fun e_ => (Kd.R_ne HO_780001.out BK774.out (by decide)) e_) hs_)); have n5_ := Aside0.mk (blk_kept (by (with_reducible repeat (first | refine blk_drewN ?_ _ | refine blk_drew ?_ | refine blk_alloc ?_ _)); exact BK779.out) hkp (fun hs_ => (fun e_ => (Kd.R_ne HO_780001.out BK779.out (by decide)) e_) hs_)); have n6_ := Aside0.mk (blk_kept (by (with_reducible repeat (first | refine blk_drewN ?_ _ | refine blk_drew ?_ | refine blk_alloc ?_ _)); exact BK785.out) hkp (fun hs_ => (fun e_ => (Kd.R_ne HO_780001.out BK785.out (by decide)) e_) hs_)); have n7_ := Aside0.mk (Kd.R_mono (ok' := fun k_ => some k_ ≠ (.slice Ao22 t770.length co22 : Value).ownBlock ∧ some k_ ≠ (.slice Ao29 t776.length co29 : Value).ownBlock ∧ some k_ ≠ (.slice Ao36 t781.length co36 : Value).ownBlock) (Kd.R_keptB (HO790.out) hkp (fun k_ hk_ hs_ => (hk_.1.2) hs_)) (fun k_ hk_ => ⟨hk_.1.1.1.2, hk_.1.1.2, hk_.1.2⟩)); have n8_ := Aside0.mk (hb); clear HO_775001; clear HO_780001; clear HO_786001; clear BK763; clear BK774; clear BK779; clear BK785; clear HO790; clear HB; have HO_775001 := n0_; have HO_780001 := n1_; have HO_786001 := n2_; have BK763 := n3_; have BK774 := n4_; have BK779 := n5_; have BK785 := n6_; have HO790 := n7_; have HB := n8_; clear n0_ n1_ n2_ n3_ n4_ n5_ n6_ n7_ n8_; (try clear hb); (try clear hkp); (try clear hy0)))
      (try simp only [Act.put, List.setIfInBounds_toArray, List.set_cons_zero, List.set_cons_succ])
      go_cut [61] (fun v61 wc => ∃ (kq : Nat) (x61_59 : Bool), v61 = .bool x61_59 ∧ Aside0 (laws_FnExactLinesOf.j1 kq t773 x61_59 a0_0 l0_1 t769 t770 t780 t781 = some r) ∧ Aside0 (kq ≤ kj10) ∧ Aside0 (Kd.R k63 63 wc w.heap.size (fun k_ => some k_ ≠ ((.slice Ao29 t776.length co29) : Value).ownBlock ∧ some k_ ≠ ((.slice Ao36 t781.length co36) : Value).ownBlock) (.slice Ao22 t770.length co22) t770) ∧ Aside0 (Kd.R k63 63 wc w.heap.size (fun k_ => some k_ ≠ ((.slice Ao22 t770.length co22) : Value).ownBlock ∧ some k_ ≠ ((.slice Ao36 t781.length co36) : Value).ownBlock) (.slice Ao29 t776.length co29) t793) ∧ Aside0 (Kd.R k63 63 wc w.heap.size (fun k_ => some k_ ≠ ((.slice Ao22 t770.length co22) : Value).ownBlock ∧ some k_ ≠ ((.slice Ao29 t776.length co29) : Value).ownBlock) (.slice Ao36 t781.length co36) t781) ∧ Aside0 (wc.heap[gb763]? = some (.cells #[.int .i64 a0_0, (.slice A0_1 l0_1.length c0_1)] 24 (0, 0))) ∧ Aside0 (wc.heap[gb774]? = some (.cells #[.int .i64 t769, (.slice Ao22 t770.length co22)] 30 (0, 0))) ∧ Aside0 (wc.heap[gb779]? = some (.cells #[.int .i64 t775, (.slice Ao29 t776.length co29)] 30 (0, 0))) ∧ Aside0 (wc.heap[gb785]? = some (.cells #[.int .i64 t780, (.slice Ao36 t781.length co36)] 30 (0, 0))) ∧ Aside0 (Below w.heap.size w wc))
      case first =>
       have H := HC60.out
       clear HC60
       by_cases c70 : t792 < 0
       ·rw [if_pos c70] at H
        have c70b0 : decide (t792 < 0) = true := decide_eq_true c70
        clear c70
        (first | rw [c70b0] | (simp only [i64_w, i32_w]; rw [c70b0]) | skip)
        have H' := Aside0.mk H
        clear H
        go_wp2
        go_meet
        case rel => exact ⟨_, (true), (by first | rfl | (simp; done) | (simp [*]; done)), H', ⟨by have := HJ10.out; first | omega | exact Nat.le_refl _⟩, ⟨by (with_reducible repeat (first | apply Kd.R_alloc | apply Kd.R_drewN | apply Kd.R_drew)); exact Kd.R_mono HO_775001.out (fun _ hk => ⟨hk.1, hk.2.1⟩)⟩, ⟨by (with_reducible repeat (first | apply Kd.R_alloc | apply Kd.R_drewN | apply Kd.R_drew)); exact Kd.R_mono HO_780001.out (fun _ hk => ⟨hk.1.1, hk.1.2⟩)⟩, ⟨by (with_reducible repeat (first | apply Kd.R_alloc | apply Kd.R_drewN | apply Kd.R_drew)); exact Kd.R_mono HO_786001.out (fun _ hk => ⟨hk.1, hk.2.1⟩)⟩, ⟨by (with_reducible repeat (first | refine blk_drewN ?_ _ | refine blk_drew ?_ | refine blk_alloc ?_ _)); exact BK763.out⟩, ⟨by (with_reducible repeat (first | refine blk_drewN ?_ _ | refine blk_drew ?_ | refine blk_alloc ?_ _)); exact BK774.out⟩, ⟨by (with_reducible repeat (first | refine blk_drewN ?_ _ | refine blk_drew ?_ | refine blk_alloc ?_ _)); exact BK779.out⟩, ⟨by (with_reducible repeat (first | refine blk_drewN ?_ _ | refine blk_drew ?_ | refine blk_alloc ?_ _)); exact BK785.out⟩, ⟨by repeat (first | (with_reducible first | exact HB.out | apply below_alloc | apply pw_below_drewN | apply below_drew1 | refine below_set ?_ GE763.out | refine below_set ?_ GE774.out | refine below_set ?_ GE779.out | refine below_set ?_ GE785.out) | exact HB.out)⟩⟩
       ·rw [if_neg c70] at H
        have c70b0 : decide (t792 < 0) = false := decide_eq_false c70
        clear c70
        (first | rw [c70b0] | (simp only [i64_w, i32_w]; rw [c70b0]) | skip)
        replace H := Option.bind_eq_some_iff.mp H
        obtain ⟨t794, A710, H⟩ := H
        replace H : (if t794 = true then (laws_FnExactLinesOf.j1 kj10 t773 (t784 != t773) a0_0 l0_1 t769 t770 t780 t781) else (laws_FnExactLinesOf.j1 kj10 t773 true a0_0 l0_1 t769 t770 t780 t781)) = some r := H
        have A71 := Aside0.mk A710
        clear A710
        by_cases c72 : t794 = true
        ·subst c72
         have H1 : (laws_FnExactLinesOf.j1 kj10 t773 (t784 != t773) a0_0 l0_1 t769 t770 t780 t781) = some r := by rw [if_pos rfl] at H; exact H
         clear H
         have H := H1
         clear H1
         have H' := Aside0.mk H
         clear H
         have hnb73 := NB785_763.out
         have hnc73 := NB763_785.out
         have hnb74 := NB785_774.out
         have hnc74 := NB774_785.out
         have hnb75 := NB785_779.out
         have hnc75 := NB779_785.out
         have hcz76_0 : w69.cell? ⟨gb785, 0, none⟩ = some (.int .i64 t780) := (blk_cell BK785.out 0).trans rfl
         have hcz76_1 : w69.cell? ⟨gb785, 1, none⟩ = some (.slice Ao36 t781.length co36) := (blk_cell BK785.out 1).trans rfl
         have hfz76_0 := blk_frozen BK785.out 0
         have hfz76_1 := blk_frozen BK785.out 1
         have hnb77 := NB774_763.out
         have hnc77 := NB763_774.out
         have hnb78 := NB774_779.out
         have hnc78 := NB779_774.out
         have hcz79_0 : w69.cell? ⟨gb774, 0, none⟩ = some (.int .i64 t769) := (blk_cell BK774.out 0).trans rfl
         have hcz79_1 : w69.cell? ⟨gb774, 1, none⟩ = some (.slice Ao22 t770.length co22) := (blk_cell BK774.out 1).trans rfl
         have hfz79_0 := blk_frozen BK774.out 0
         have hfz79_1 := blk_frozen BK774.out 1
         go_wp2_with (first | (go_at_call 15; (with_reducible refine (laws_eqParty.calls kj10 t780 _ _ t781 t769 _ _ t770 true _ ?side1 ?side2 ?side3 ?side4 A71.out).mono ?_); (case side1 => repeat (first | exact (Kd.R_reads' HO_786001.out).2.2 | (with_reducible refine Kd.C_alloc ?_ _) | (with_reducible refine Kd.C_drewN ?_ _) | (with_reducible refine Kd.C_drew ?_))); (case side2 => exact (Kd.R_reads' HO_786001.out).2.1); (case side3 => repeat (first | exact (Kd.R_reads' HO_775001.out).2.2 | (with_reducible refine Kd.C_alloc ?_ _) | (with_reducible refine Kd.C_drewN ?_ _) | (with_reducible refine Kd.C_drew ?_))); (case side4 => exact (Kd.R_reads' HO_775001.out).2.1); rintro e w80 ⟨rfl, hb⟩; have n0_ := Aside0.mk (Kd.R_below (by (with_reducible repeat (first | apply Kd.R_alloc | apply Kd.R_drewN | apply Kd.R_drew)); exact HO_775001.out) hb); have n1_ := Aside0.mk (Kd.R_below (by (with_reducible repeat (first | apply Kd.R_alloc | apply Kd.R_drewN | apply Kd.R_drew)); exact HO_780001.out) hb); have n2_ := Aside0.mk (Kd.R_below (by (with_reducible repeat (first | apply Kd.R_alloc | apply Kd.R_drewN | apply Kd.R_drew)); exact HO_786001.out) hb); have n3_ := Aside0.mk (Kd.R_below (by (with_reducible repeat (first | apply Kd.R_alloc | apply Kd.R_drewN | apply Kd.R_drew)); exact HO790.out) hb); have n4_ := Aside0.mk (blk_below (g := gb763) (o := .cells #[.int .i64 a0_0, .slice A0_1 l0_1.length c0_1] 24 (0, 0)) (by (with_reducible repeat (first | refine blk_drewN ?_ _ | refine blk_drew ?_ | refine blk_alloc ?_ _)); exact BK763.out) hb); have n5_ := Aside0.mk (blk_below (g := gb774) (o := .cells #[.int .i64 t769, .slice Ao22 t770.length co22] 30 (0, 0)) (by (with_reducible repeat (first | refine blk_drewN ?_ _ | refine blk_drew ?_ | refine blk_alloc ?_ _)); exact BK774.out) hb); have n6_ := Aside0.mk (blk_below (g := gb779) (o := .cells #[.int .i64 t775, .slice Ao29 t776.length co29] 30 (0, 0)) (by (with_reducible repeat (first | refine blk_drewN ?_ _ | refine blk_drew ?_ | refine blk_alloc ?_ _)); exact BK779.out) hb); have n7_ := Aside0.mk (blk_below (g := gb785) (o := .cells #[.int .i64 t780, .slice Ao36 t781.length co36] 30 (0, 0)) (by (with_reducible repeat (first | refine blk_drewN ?_ _ | refine blk_drew ?_ | refine blk_alloc ?_ _)); exact BK785.out) hb); have n8_ := Aside0.mk (below_step (by repeat (first | (with_reducible first | exact HB.out | apply below_alloc | apply pw_below_drewN | apply below_drew1 | refine below_set ?_ GE763.out | refine below_set ?_ GE774.out | refine below_set ?_ GE779.out | refine below_set ?_ GE785.out) | exact HB.out)) hb); clear HO_775001; clear HO_780001; clear HO_786001; clear HO790; clear BK763; clear BK774; clear BK779; clear BK785; clear HB; have HO_775001 := n0_; have HO_780001 := n1_; have HO_786001 := n2_; have HO790 := n3_; have BK763 := n4_; have BK774 := n5_; have BK779 := n6_; have BK785 := n7_; have HB := n8_; clear n0_ n1_ n2_ n3_ n4_ n5_ n6_ n7_ n8_; (try clear hb); (try clear hb2); (try clear hk); (try clear hi)))
         go_meet
         case rel => exact ⟨_, ((t784 != t773)), (by first | rfl | (simp; done) | (simp [*]; done)), H', ⟨by have := HJ10.out; first | omega | exact Nat.le_refl _⟩, ⟨by (with_reducible repeat (first | apply Kd.R_alloc | apply Kd.R_drewN | apply Kd.R_drew)); exact Kd.R_mono HO_775001.out (fun _ hk => ⟨hk.1, hk.2.1⟩)⟩, ⟨by (with_reducible repeat (first | apply Kd.R_alloc | apply Kd.R_drewN | apply Kd.R_drew)); exact Kd.R_mono HO_780001.out (fun _ hk => ⟨hk.1.1, hk.1.2⟩)⟩, ⟨by (with_reducible repeat (first | apply Kd.R_alloc | apply Kd.R_drewN | apply Kd.R_drew)); exact Kd.R_mono HO_786001.out (fun _ hk => ⟨hk.1, hk.2.1⟩)⟩, ⟨by (with_reducible repeat (first | refine blk_drewN ?_ _ | refine blk_drew ?_ | refine blk_alloc ?_ _)); exact BK763.out⟩, ⟨by (with_reducible repeat (first | refine blk_drewN ?_ _ | refine blk_drew ?_ | refine blk_alloc ?_ _)); exact BK774.out⟩, ⟨by (with_reducible repeat (first | refine blk_drewN ?_ _ | refine blk_drew ?_ | refine blk_alloc ?_ _)); exact BK779.out⟩, ⟨by (with_reducible repeat (first | refine blk_drewN ?_ _ | refine blk_drew ?_ | refine blk_alloc ?_ _)); exact BK785.out⟩, ⟨by repeat (first | (with_reducible first | exact HB.out | apply below_alloc | apply pw_below_drewN | apply below_drew1 | refine below_set ?_ GE763.out | refine below_set ?_ GE774.out | refine below_set ?_ GE779.out | refine below_set ?_ GE785.out) | exact HB.out)⟩⟩
        ·replace c72 := Bool.eq_false_iff.mpr c72
         subst c72
         have H1 : (laws_FnExactLinesOf.j1 kj10 t773 true a0_0 l0_1 t769 t770 t780 t781) = some r := by rw [if_neg (show ¬ (false = true) by decide)] at H; exact H
         clear H
         have H := H1
         clear H1
         have H' := Aside0.mk H
         clear H
         have hnb81 := NB785_763.out
         have hnc81 := NB763_785.out
         have hnb82 := NB785_774.out
         have hnc82 := NB774_785.out
         have hnb83 := NB785_779.out
         have hnc83 := NB779_785.out
         have hcz84_0 : w69.cell? ⟨gb785, 0, none⟩ = some (.int .i64 t780) := (blk_cell BK785.out 0).trans rfl
         have hcz84_1 : w69.cell? ⟨gb785, 1, none⟩ = some (.slice Ao36 t781.length co36) := (blk_cell BK785.out 1).trans rfl
         have hfz84_0 := blk_frozen BK785.out 0
         have hfz84_1 := blk_frozen BK785.out 1
         have hnb85 := NB774_763.out
         have hnc85 := NB763_774.out
         have hnb86 := NB774_779.out
         have hnc86 := NB779_774.out
         have hcz87_0 : w69.cell? ⟨gb774, 0, none⟩ = some (.int .i64 t769) := (blk_cell BK774.out 0).trans rfl
         have hcz87_1 : w69.cell? ⟨gb774, 1, none⟩ = some (.slice Ao22 t770.length co22) := (blk_cell BK774.out 1).trans rfl
         have hfz87_0 := blk_frozen BK774.out 0
         have hfz87_1 := blk_frozen BK774.out 1
         go_wp2_with (first | (go_at_call 15; (with_reducible refine (laws_eqParty.calls kj10 t780 _ _ t781 t769 _ _ t770 false _ ?side1 ?side2 ?side3 ?side4 A71.out).mono ?_); (case side1 => repeat (first | exact (Kd.R_reads' HO_786001.out).2.2 | (with_reducible refine Kd.C_alloc ?_ _) | (with_reducible refine Kd.C_drewN ?_ _) | (with_reducible refine Kd.C_drew ?_))); (case side2 => exact (Kd.R_reads' HO_786001.out).2.1); (case side3 => repeat (first | exact (Kd.R_reads' HO_775001.out).2.2 | (with_reducible refine Kd.C_alloc ?_ _) | (with_reducible refine Kd.C_drewN ?_ _) | (with_reducible refine Kd.C_drew ?_))); (case side4 => exact (Kd.R_reads' HO_775001.out).2.1); rintro e w88 ⟨rfl, hb⟩; have n0_ := Aside0.mk (Kd.R_below (by (with_reducible repeat (first | apply Kd.R_alloc | apply Kd.R_drewN | apply Kd.R_drew)); exact HO_775001.out) hb); have n1_ := Aside0.mk (Kd.R_below (by (with_reducible repeat (first | apply Kd.R_alloc | apply Kd.R_drewN | apply Kd.R_drew)); exact HO_780001.out) hb); have n2_ := Aside0.mk (Kd.R_below (by (with_reducible repeat (first | apply Kd.R_alloc | apply Kd.R_drewN | apply Kd.R_drew)); exact HO_786001.out) hb); have n3_ := Aside0.mk (Kd.R_below (by (with_reducible repeat (first | apply Kd.R_alloc | apply Kd.R_drewN | apply Kd.R_drew)); exact HO790.out) hb); have n4_ := Aside0.mk (blk_below (g := gb763) (o := .cells #[.int .i64 a0_0, .slice A0_1 l0_1.length c0_1] 24 (0, 0)) (by (with_reducible repeat (first | refine blk_drewN ?_ _ | refine blk_drew ?_ | refine blk_alloc ?_ _)); exact BK763.out) hb); have n5_ := Aside0.mk (blk_below (g := gb774) (o := .cells #[.int .i64 t769, .slice Ao22 t770.length co22] 30 (0, 0)) (by (with_reducible repeat (first | refine blk_drewN ?_ _ | refine blk_drew ?_ | refine blk_alloc ?_ _)); exact BK774.out) hb); have n6_ := Aside0.mk (blk_below (g := gb779) (o := .cells #[.int .i64 t775, .slice Ao29 t776.length co29] 30 (0, 0)) (by (with_reducible repeat (first | refine blk_drewN ?_ _ | refine blk_drew ?_ | refine blk_alloc ?_ _)); exact BK779.out) hb); have n7_ := Aside0.mk (blk_below (g := gb785) (o := .cells #[.int .i64 t780, .slice Ao36 t781.length co36] 30 (0, 0)) (by (with_reducible repeat (first | refine blk_drewN ?_ _ | refine blk_drew ?_ | refine blk_alloc ?_ _)); exact BK785.out) hb); have n8_ := Aside0.mk (below_step (by repeat (first | (with_reducible first | exact HB.out | apply below_alloc | apply pw_below_drewN | apply below_drew1 | refine below_set ?_ GE763.out | refine below_set ?_ GE774.out | refine below_set ?_ GE779.out | refine below_set ?_ GE785.out) | exact HB.out)) hb); clear HO_775001; clear HO_780001; clear HO_786001; clear HO790; clear BK763; clear BK774; clear BK779; clear BK785; clear HB; have HO_775001 := n0_; have HO_780001 := n1_; have HO_786001 := n2_; have HO790 := n3_; have BK763 := n4_; have BK774 := n5_; have BK779 := n6_; have BK785 := n7_; have HB := n8_; clear n0_ n1_ n2_ n3_ n4_ n5_ n6_ n7_ n8_; (try clear hb); (try clear hb2); (try clear hk); (try clear hi)))
         go_meet
         case rel => exact ⟨_, (true), (by first | rfl | (simp; done) | (simp [*]; done)), H', ⟨by have := HJ10.out; first | omega | exact Nat.le_refl _⟩, ⟨by (with_reducible repeat (first | apply Kd.R_alloc | apply Kd.R_drewN | apply Kd.R_drew)); exact Kd.R_mono HO_775001.out (fun _ hk => ⟨hk.1, hk.2.1⟩)⟩, ⟨by (with_reducible repeat (first | apply Kd.R_alloc | apply Kd.R_drewN | apply Kd.R_drew)); exact Kd.R_mono HO_780001.out (fun _ hk => ⟨hk.1.1, hk.1.2⟩)⟩, ⟨by (with_reducible repeat (first | apply Kd.R_alloc | apply Kd.R_drewN | apply Kd.R_drew)); exact Kd.R_mono HO_786001.out (fun _ hk => ⟨hk.1, hk.2.1⟩)⟩, ⟨by (with_reducible repeat (first | refine blk_drewN ?_ _ | refine blk_drew ?_ | refine blk_alloc ?_ _)); exact BK763.out⟩, ⟨by (with_reducible repeat (first | refine blk_drewN ?_ _ | refine blk_drew ?_ | refine blk_alloc ?_ _)); exact BK774.out⟩, ⟨by (with_reducible repeat (first | refine blk_drewN ?_ _ | refine blk_drew ?_ | refine blk_alloc ?_ _)); exact BK779.out⟩, ⟨by (with_reducible repeat (first | refine blk_drewN ?_ _ | refine blk_drew ?_ | refine blk_alloc ?_ _)); exact BK785.out⟩, ⟨by repeat (first | (with_reducible first | exact HB.out | apply below_alloc | apply pw_below_drewN | apply below_drew1 | refine below_set ?_ GE763.out | refine below_set ?_ GE774.out | refine below_set ?_ GE779.out | refine below_set ?_ GE785.out) | exact HB.out)⟩⟩
      case rest =>
       clear HC60
       try clear c1
       try clear c2
       try clear p2
       try clear c3
       try clear c3b0
       try clear c4
       try clear c5
       try clear c6
       try clear c7
       try clear c8
       try clear c10
       try clear c11
       try clear c13
       try clear c15
       try clear c20
       try clear c26
       try clear c27
       try clear c30
       try clear c32
       try clear c33
       try clear c34
       try clear c38
       try clear c39
       try clear c40
       try clear c41
       try clear c43
       try clear c44
       try clear c47
       try clear c48
       try clear c49
       try clear c51
       try clear c52
       try clear c55
       try clear c58
       try clear c65
       try clear c66
       try clear c67
       try clear c70
       try clear c70b0
       try clear c72
       try clear c73
       try clear c74
       try clear c75
       try clear c77
       try clear c78
       try clear c81
       try clear c82
       try clear c83
       try clear c85
       try clear c86
       try clear hcz13_0
       try clear hcz13_1
       try clear hcz15_0
       try clear hcz15_1
       try clear hcz21_0
       try clear hcz21_1
       try clear hcz23_0
       try clear hcz23_1
       try clear hcz28_0
       try clear hcz28_1
       try clear hcz35_0
       try clear hcz35_1
       try clear hcz42_0
       try clear hcz42_1
       try clear hcz45_0
       try clear hcz45_1
       try clear hcz50_0
       try clear hcz50_1
       try clear hcz53_0
       try clear hcz53_1
       try clear hcz5_0
       try clear hcz5_1
       try clear hcz68_0
       try clear hcz68_1
       try clear hcz76_0
       try clear hcz76_1
       try clear hcz79_0
       try clear hcz79_1
       try clear hcz84_0
       try clear hcz84_1
       try clear hcz87_0
       try clear hcz87_1
       try clear hfz13_0
       try clear hfz13_1
       try clear hfz15_0
       try clear hfz15_1
       try clear hfz21_0
       try clear hfz21_1
       try clear hfz23_0
       try clear hfz23_1
       try clear hfz28_0
       try clear hfz28_1
       try clear hfz35_0
       try clear hfz35_1
       try clear hfz42_0
       try clear hfz42_1
       try clear hfz45_0
       try clear hfz45_1
       try clear hfz50_0
       try clear hfz50_1
       try clear hfz53_0
       try clear hfz53_1
       try clear hfz5_0
       try clear hfz5_1
       try clear hfz68_0
       try clear hfz68_1
       try clear hfz76_0
       try clear hfz76_1
       try clear hfz79_0
       try clear hfz79_1
       try clear hfz84_0
       try clear hfz84_1
       try clear hfz87_0
       try clear hfz87_1
       try clear p2
       obtain ⟨kq, x61_59, rfl, HA, HJ59, HO_775001, HO_780001, HO_786001, BK763, BK774, BK779, BK785, HB⟩ := hcut
       have hl780001_59 := (Kd.R_reads' HO_780001.out).1
       rw [hl780001_59] at HO_780001
       (try simp only [hl780001_59])
       (try simp only [hl780001_59] at BK763)
       (try simp only [hl780001_59] at BK774)
       (try simp only [hl780001_59] at BK779)
       (try simp only [hl780001_59] at BK785)
       (try simp only [hl780001_59] at HO_775001)
       (try simp only [hl780001_59] at HO_786001)
       cases kq with
       | zero => exact absurd HA.out (by simp [laws_FnExactLinesOf.j1])
       | succ kj59 =>
        have H := HA.out
        clear HA
        simp only [laws_FnExactLinesOf.j1] at H
        by_cases c89 : x61_59 = true
        ·subst c89
         have H1 : (some false) = some r := by rw [if_pos rfl] at H; exact H
         clear H
         have H := H1
         clear H1
         obtain rfl := Option.some.inj H
         go_wp2
         go_ret
         exact ⟨by first | rfl | (simp [errW_none, errW_some] <;> rfl) | (simp [*, errW_none, errW_some] <;> rfl), by repeat (first | (with_reducible first | exact HB.out | apply below_alloc | apply pw_below_drewN | apply below_drew1 | refine below_set ?_ GE763.out | refine below_set ?_ GE774.out | refine below_set ?_ GE779.out | refine below_set ?_ GE785.out) | exact HB.out)⟩
        ·replace c89 := Bool.eq_false_iff.mpr c89
         subst c89
         have H1 : ((laws_markParty.f kj59 t780 t781 1).bind fun bt795 => ((laws_heldParty.f kj59 t780 bt795.2 1).bind fun t797 => (if t797 < 0 then (some false) else (if t797 = bt795.1 then ((laws_toParty.f kj59 a0_0 l0_1).bind fun bt798 => ((impl_LinesOf.f kj59 bt798.1 bt798.2).bind fun bt802 => ((laws_eqParty.f kj59 bt802.1 bt802.2.1 t769 t770).bind fun t808 => (if t808 = true then (laws_FnExactLinesOf.j2 kj59 bt795.1 (bt802.2.2 != t773) t780 bt795.2) else (laws_FnExactLinesOf.j2 kj59 bt795.1 true t780 bt795.2))))) else (some false))))) = some r := by rw [if_neg (show ¬ (false = true) by decide)] at H; exact H
         clear H
         have H := H1
         clear H1
         replace H := Option.bind_eq_some_iff.mp H
         obtain ⟨⟨t795, t796⟩, A900, H⟩ := H
         replace H : ((laws_heldParty.f kj59 t780 t796 1).bind fun t797 => (if t797 < 0 then (some false) else (if t797 = t795 then ((laws_toParty.f kj59 a0_0 l0_1).bind fun bt798 => ((impl_LinesOf.f kj59 bt798.1 bt798.2).bind fun bt802 => ((laws_eqParty.f kj59 bt802.1 bt802.2.1 t769 t770).bind fun t808 => (if t808 = true then (laws_FnExactLinesOf.j2 kj59 t795 (bt802.2.2 != t773) t780 t796) else (laws_FnExactLinesOf.j2 kj59 t795 true t780 t796))))) else (some false)))) = some r := H
         have A90 := Aside0.mk A900
         clear A900
         replace H := Option.bind_eq_some_iff.mp H
         obtain ⟨t797, A910, H⟩ := H
         replace H : (if t797 < 0 then (some false) else (if t797 = t795 then ((laws_toParty.f kj59 a0_0 l0_1).bind fun bt798 => ((impl_LinesOf.f kj59 bt798.1 bt798.2).bind fun bt802 => ((laws_eqParty.f kj59 bt802.1 bt802.2.1 t769 t770).bind fun t808 => (if t808 = true then (laws_FnExactLinesOf.j2 kj59 t795 (bt802.2.2 != t773) t780 t796) else (laws_FnExactLinesOf.j2 kj59 t795 true t780 t796))))) else (some false))) = some r := H
         have A91 := Aside0.mk A910
         clear A910
         by_cases c92 : t797 < 0
         ·rw [if_pos c92] at H
          have c92b0 : decide (t797 < 0) = true := decide_eq_true c92
          clear c92
          obtain rfl := Option.some.inj H
          have hnb93 := NB785_763.out
          have hnc93 := NB763_785.out
          have hnb94 := NB785_774.out
          have hnc94 := NB774_785.out
          have hnb95 := NB785_779.out
          have hnc95 := NB779_785.out
          have hcz96_0 : wc.cell? ⟨gb785, 0, none⟩ = some (.int .i64 t780) := (blk_cell BK785.out 0).trans rfl
          have hcz96_1 : wc.cell? ⟨gb785, 1, none⟩ = some (.slice Ao36 t781.length co36) := (blk_cell BK785.out 1).trans rfl
          have hfz96_0 := blk_frozen BK785.out 0
          have hfz96_1 := blk_frozen BK785.out 1
          go_wp2_with (first | ((with_reducible refine gate_callee (f := 30) rfl ?_); refine goesL_ (some 64) rfl rfl Try.func30 (by kernel_rfl) rfl #[.agg #[.int .i64 t780, .slice Ao36 t781.length co36], .int .i64 1] rfl (by (try simp only [List.map_toArray, List.map_cons, List.map_nil]); first | done | rfl | (simp only [List.length_drop, List.length_take]; rfl)) ?_; (with_reducible refine (laws_markParty.calls kj59 t780 (fun k_ => some k_ = (.slice Ao36 t781.length co36 : Value).ownBlock) (.slice Ao36 t781.length co36) t781 1 t795 t796 w _ ?side1 ?side2 A90.out).mono ?_); (case side1 => repeat (first | (with_reducible first | exact HB.out | apply below_alloc | apply pw_below_drewN | apply below_drew1 | refine below_set ?_ GE763.out | refine below_set ?_ GE774.out | refine below_set ?_ GE779.out | refine below_set ?_ GE785.out) | exact HB.out)); (case side2 => exact Kd.R_tight rfl HO_786001.out); rintro e w97 ⟨rfl, hy0, hb, hkp⟩; refine ⟨_, rfl, ?_⟩; have n0_ := Aside0.mk (Kd.R_mono (ok' := fun k_ => some k_ ≠ (.slice Ao29 t793.length co29 : Value).ownBlock ∧ some k_ ≠ (.slice Ao36 t781.length co36 : Value).ownBlock) (Kd.R_keptB (HO_775001.out) hkp (fun k_ hk_ hs_ => (hk_.2) hs_)) (fun k_ hk_ => ⟨hk_.1.1, hk_.1.2⟩)); have n1_ := Aside0.mk (Kd.R_mono (ok' := fun k_ => some k_ ≠ (.slice Ao22 t770.length co22 : Value).ownBlock ∧ some k_ ≠ (.slice Ao36 t781.length co36 : Value).ownBlock) (Kd.R_keptB (HO_780001.out) hkp (fun k_ hk_ hs_ => (hk_.2) hs_)) (fun k_ hk_ => ⟨hk_.1.1, hk_.1.2⟩)); have n2_ := Aside0.mk (Kd.R_reok rfl hy0 (fun k_ e_ => HO_786001.out.1 k_ e_)); have n3_ := Aside0.mk (blk_kept (by (with_reducible repeat (first | refine blk_drewN ?_ _ | refine blk_drew ?_ | refine blk_alloc ?_ _)); exact BK763.out) hkp (fun hs_ => (fun e_ => (Kd.R_ne HO_786001.out BK763.out (by decide)) e_) hs_)); have n4_ := Aside0.mk (blk_kept (by (with_reducible repeat (first | refine blk_drewN ?_ _ | refine blk_drew ?_ | refine blk_alloc ?_ _)); exact BK774.out) hkp (fun hs_ => (fun e_ => (Kd.R_ne HO_786001.out BK774.out (by decide)) e_) hs_)); have n5_ := Aside0.mk (blk_kept (by (with_reducible repeat (first | refine blk_drewN ?_ _ | refine blk_drew ?_ | refine blk_alloc ?_ _)); exact BK779.out) hkp (fun hs_ => (fun e_ => (Kd.R_ne HO_786001.out BK779.out (by decide)) e_) hs_)); have n6_ := Aside0.mk (blk_kept (by (with_reducible repeat (first | refine blk_drewN ?_ _ | refine blk_drew ?_ | refine blk_alloc ?_ _)); exact BK785.out) hkp (fun hs_ => (fun e_ => (Kd.R_ne HO_786001.out BK785.out (by decide)) e_) hs_)); have n7_ := Aside0.mk (hb); clear HO_775001; clear HO_780001; clear HO_786001; clear BK763; clear BK774; clear BK779; clear BK785; clear HB; have HO_775001 := n0_; have HO_780001 := n1_; have HO_786001 := n2_; have BK763 := n3_; have BK774 := n4_; have BK779 := n5_; have BK785 := n6_; have HB := n7_; clear n0_ n1_ n2_ n3_ n4_ n5_ n6_ n7_; (try clear hb); (try clear hkp); (try clear hy0); have hcz98_0 : w97.cell? ⟨gb785, 0, none⟩ = some (.int .i64 t780) := (blk_cell BK785.out 0).trans rfl; have hcz98_1 : w97.cell? ⟨gb785, 1, none⟩ = some (.slice Ao36 t781.length co36) := (blk_cell BK785.out 1).trans rfl; have hfz98_0 := blk_frozen BK785.out 0; have hfz98_1 := blk_frozen BK785.out 1) | ((with_reducible refine gate_callee (f := 31) rfl ?_); refine goesL_ (some 67) rfl rfl Try.func31 (by kernel_rfl) rfl #[.agg #[.int .i64 t780, .slice Ao36 t796.length co36], .int .i64 1] rfl (by (try simp only [List.map_toArray, List.map_cons, List.map_nil]); first | done | (rw [show t796.length = t781.length from (Kd.R_reads' HO_786001.out).1.symm] <;> rfl) | rfl | (simp only [List.length_drop, List.length_take]; rfl)) ?_; (with_reducible refine (laws_heldParty.calls kj59 t780 _ _ t796 1 t797 _ ?side1 ?side2 A91.out).mono ?_); (case side1 => repeat (first | exact (Kd.R_reads' HO_786001.out).2.2 | (with_reducible refine Kd.C_alloc ?_ _) | (with_reducible refine Kd.C_drewN ?_ _) | (with_reducible refine Kd.C_drew ?_))); (case side2 => rw [show t796.length = t781.length from (Kd.R_reads' HO_786001.out).1.symm]; exact (Kd.R_reads' HO_786001.out).2.1); rintro e w99 ⟨rfl, hb⟩; refine ⟨_, rfl, ?_⟩; have n0_ := Aside0.mk (Kd.R_below (by (with_reducible repeat (first | apply Kd.R_alloc | apply Kd.R_drewN | apply Kd.R_drew)); exact HO_775001.out) hb); have n1_ := Aside0.mk (Kd.R_below (by (with_reducible repeat (first | apply Kd.R_alloc | apply Kd.R_drewN | apply Kd.R_drew)); exact HO_780001.out) hb); have n2_ := Aside0.mk (Kd.R_below (by (with_reducible repeat (first | apply Kd.R_alloc | apply Kd.R_drewN | apply Kd.R_drew)); exact HO_786001.out) hb); have n3_ := Aside0.mk (blk_below (g := gb763) (o := .cells #[.int .i64 a0_0, .slice A0_1 l0_1.length c0_1] 24 (0, 0)) (by (with_reducible repeat (first | refine blk_drewN ?_ _ | refine blk_drew ?_ | refine blk_alloc ?_ _)); exact BK763.out) hb); have n4_ := Aside0.mk (blk_below (g := gb774) (o := .cells #[.int .i64 t769, .slice Ao22 t770.length co22] 30 (0, 0)) (by (with_reducible repeat (first | refine blk_drewN ?_ _ | refine blk_drew ?_ | refine blk_alloc ?_ _)); exact BK774.out) hb); have n5_ := Aside0.mk (blk_below (g := gb779) (o := .cells #[.int .i64 t775, .slice Ao29 t793.length co29] 30 (0, 0)) (by (with_reducible repeat (first | refine blk_drewN ?_ _ | refine blk_drew ?_ | refine blk_alloc ?_ _)); exact BK779.out) hb); have n6_ := Aside0.mk (blk_below (g := gb785) (o := .cells #[.int .i64 t780, .slice Ao36 t781.length co36] 30 (0, 0)) (by (with_reducible repeat (first | refine blk_drewN ?_ _ | refine blk_drew ?_ | refine blk_alloc ?_ _)); exact BK785.out) hb); have n7_ := Aside0.mk (below_step (by repeat (first | (with_reducible first | exact HB.out | apply below_alloc | apply pw_below_drewN | apply below_drew1 | refine below_set ?_ GE763.out | refine below_set ?_ GE774.out | refine below_set ?_ GE779.out | refine below_set ?_ GE785.out) | exact HB.out)) hb); clear HO_775001; clear HO_780001; clear HO_786001; clear BK763; clear BK774; clear BK779; clear BK785; clear HB; have HO_775001 := n0_; have HO_780001 := n1_; have HO_786001 := n2_; have BK763 := n3_; have BK774 := n4_; have BK779 := n5_; have BK785 := n6_; have HB := n7_; clear n0_ n1_ n2_ n3_ n4_ n5_ n6_ n7_; (try clear hb); (try clear hb2); (try clear hk); (try clear hi)))
          go_ret
          exact ⟨by first | rfl | (simp [errW_none, errW_some] <;> rfl) | (simp [*, errW_none, errW_some] <;> rfl), by repeat (first | (with_reducible first | exact HB.out | apply below_alloc | apply pw_below_drewN | apply below_drew1 | refine below_set ?_ GE763.out | refine below_set ?_ GE774.out | refine below_set ?_ GE779.out | refine below_set ?_ GE785.out) | exact HB.out)⟩
         ·rw [if_neg c92] at H
          have c92b0 : decide (t797 < 0) = false := decide_eq_false c92
          clear c92
          by_cases c100 : t797 = t795
          ·rw [if_pos c100] at H
           have c100b0 : (t797 == t795) = true := beq_iff_eq.mpr c100
           have c100b1 : (t797 != t795) = false := bne_eq_false_iff_eq.mpr c100
           clear c100
           replace H := Option.bind_eq_some_iff.mp H
           obtain ⟨⟨t798, t799⟩, A1010, H⟩ := H
           replace H : ((impl_LinesOf.f kj59 t798 t799).bind fun bt802 => ((laws_eqParty.f kj59 bt802.1 bt802.2.1 t769 t770).bind fun t808 => (if t808 = true then (laws_FnExactLinesOf.j2 kj59 t795 (bt802.2.2 != t773) t780 t796) else (laws_FnExactLinesOf.j2 kj59 t795 true t780 t796)))) = some r := H
           have A101 := Aside0.mk A1010
           clear A1010
           replace H := Option.bind_eq_some_iff.mp H
           obtain ⟨⟨t802, t803, t806⟩, A1020, H⟩ := H
           replace H : ((laws_eqParty.f kj59 t802 t803 t769 t770).bind fun t808 => (if t808 = true then (laws_FnExactLinesOf.j2 kj59 t795 (t806 != t773) t780 t796) else (laws_FnExactLinesOf.j2 kj59 t795 true t780 t796))) = some r := H
           have A102 := Aside0.mk A1020
           clear A1020
           have HC103 := Aside0.mk H
           clear H
           have hnb104 := NB785_763.out
           have hnc104 := NB763_785.out
           have hnb105 := NB785_774.out
           have hnc105 := NB774_785.out
           have hnb106 := NB785_779.out
           have hnc106 := NB779_785.out
           have hcz107_0 : wc.cell? ⟨gb785, 0, none⟩ = some (.int .i64 t780) := (blk_cell BK785.out 0).trans rfl
           have hcz107_1 : wc.cell? ⟨gb785, 1, none⟩ = some (.slice Ao36 t781.length co36) := (blk_cell BK785.out 1).trans rfl
           have hfz107_0 := blk_frozen BK785.out 0
           have hfz107_1 := blk_frozen BK785.out 1
           go_upto_region 25 with (first | ((with_reducible refine gate_callee (f := 30) rfl ?_); refine goesL_ (some 64) rfl rfl Try.func30 (by kernel_rfl) rfl #[.agg #[.int .i64 t780, .slice Ao36 t781.length co36], .int .i64 1] rfl (by (try simp only [List.map_toArray, List.map_cons, List.map_nil]); first | done | rfl | (simp only [List.length_drop, List.length_take]; rfl)) ?_; (with_reducible refine (laws_markParty.calls kj59 t780 (fun k_ => some k_ = (.slice Ao36 t781.length co36 : Value).ownBlock) (.slice Ao36 t781.length co36) t781 1 t795 t796 w _ ?side1 ?side2 A90.out).mono ?_); (case side1 => repeat (first | (with_reducible first | exact HB.out | apply below_alloc | apply pw_below_drewN | apply below_drew1 | refine below_set ?_ GE763.out | refine below_set ?_ GE774.out | refine below_set ?_ GE779.out | refine below_set ?_ GE785.out) | exact HB.out)); (case side2 => exact Kd.R_tight rfl HO_786001.out); rintro e w108 ⟨rfl, hy0, hb, hkp⟩; refine ⟨_, rfl, ?_⟩; have n0_ := Aside0.mk (Kd.R_mono (ok' := fun k_ => some k_ ≠ (.slice Ao29 t793.length co29 : Value).ownBlock ∧ some k_ ≠ (.slice Ao36 t781.length co36 : Value).ownBlock) (Kd.R_keptB (HO_775001.out) hkp (fun k_ hk_ hs_ => (hk_.2) hs_)) (fun k_ hk_ => ⟨hk_.1.1, hk_.1.2⟩)); have n1_ := Aside0.mk (Kd.R_mono (ok' := fun k_ => some k_ ≠ (.slice Ao22 t770.length co22 : Value).ownBlock ∧ some k_ ≠ (.slice Ao36 t781.length co36 : Value).ownBlock) (Kd.R_keptB (HO_780001.out) hkp (fun k_ hk_ hs_ => (hk_.2) hs_)) (fun k_ hk_ => ⟨hk_.1.1, hk_.1.2⟩)); have n2_ := Aside0.mk (Kd.R_reok rfl hy0 (fun k_ e_ => HO_786001.out.1 k_ e_)); have n3_ := Aside0.mk (blk_kept (by (with_reducible repeat (first | refine blk_drewN ?_ _ | refine blk_drew ?_ | refine blk_alloc ?_ _)); exact BK763.out) hkp (fun hs_ => (fun e_ => (Kd.R_ne HO_786001.out BK763.out (by decide)) e_) hs_)); have n4_ := Aside0.mk (blk_kept (by (with_reducible repeat (first | refine blk_drewN ?_ _ | refine blk_drew ?_ | refine blk_alloc ?_ _)); exact BK774.out) hkp (fun hs_ => (fun e_ => (Kd.R_ne HO_786001.out BK774.out (by decide)) e_) hs_)); have n5_ := Aside0.mk (blk_kept (by (with_reducible repeat (first | refine blk_drewN ?_ _ | refine blk_drew ?_ | refine blk_alloc ?_ _)); exact BK779.out) hkp (fun hs_ => (fun e_ => (Kd.R_ne HO_786001.out BK779.out (by decide)) e_) hs_)); have n6_ := Aside0.mk (blk_kept (by (with_reducible repeat (first | refine blk_drewN ?_ _ | refine blk_drew ?_ | refine blk_alloc ?_ _)); exact BK785.out) hkp (fun hs_ => (fun e_ => (Kd.R_ne HO_786001.out BK785.out (by decide)) e_) hs_)); have n7_ := Aside0.mk (hb); clear HO_775001; clear HO_780001; clear HO_786001; clear BK763; clear BK774; clear BK779; clear BK785; clear HB; have HO_775001 := n0_; have HO_780001 := n1_; have HO_786001 := n2_; have BK763 := n3_; have BK774 := n4_; have BK779 := n5_; have BK785 := n6_; have HB := n7_; clear n0_ n1_ n2_ n3_ n4_ n5_ n6_ n7_; (try clear hb); (try clear hkp); (try clear hy0); have hcz109_0 : w108.cell? ⟨gb785, 0, none⟩ = some (.int .i64 t780) := (blk_cell BK785.out 0).trans rfl; have hcz109_1 : w108.cell? ⟨gb785, 1, none⟩ = some (.slice Ao36 t781.length co36) := (blk_cell BK785.out 1).trans rfl; have hfz109_0 := blk_frozen BK785.out 0; have hfz109_1 := blk_frozen BK785.out 1) | ((with_reducible refine gate_callee (f := 31) rfl ?_); refine goesL_ (some 67) rfl rfl Try.func31 (by kernel_rfl) rfl #[.agg #[.int .i64 t780, .slice Ao36 t796.length co36], .int .i64 1] rfl (by (try simp only [List.map_toArray, List.map_cons, List.map_nil]); first | done | (rw [show t796.length = t781.length from (Kd.R_reads' HO_786001.out).1.symm] <;> rfl) | rfl | (simp only [List.length_drop, List.length_take]; rfl)) ?_; (with_reducible refine (laws_heldParty.calls kj59 t780 _ _ t796 1 t797 _ ?side1 ?side2 A91.out).mono ?_); (case side1 => repeat (first | exact (Kd.R_reads' HO_786001.out).2.2 | (with_reducible refine Kd.C_alloc ?_ _) | (with_reducible refine Kd.C_drewN ?_ _) | (with_reducible refine Kd.C_drew ?_))); (case side2 => rw [show t796.length = t781.length from (Kd.R_reads' HO_786001.out).1.symm]; exact (Kd.R_reads' HO_786001.out).2.1); rintro e w110 ⟨rfl, hb⟩; refine ⟨_, rfl, ?_⟩; have n0_ := Aside0.mk (Kd.R_below (by (with_reducible repeat (first | apply Kd.R_alloc | apply Kd.R_drewN | apply Kd.R_drew)); exact HO_775001.out) hb); have n1_ := Aside0.mk (Kd.R_below (by (with_reducible repeat (first | apply Kd.R_alloc | apply Kd.R_drewN | apply Kd.R_drew)); exact HO_780001.out) hb); have n2_ := Aside0.mk (Kd.R_below (by (with_reducible repeat (first | apply Kd.R_alloc | apply Kd.R_drewN | apply Kd.R_drew)); exact HO_786001.out) hb); have n3_ := Aside0.mk (blk_below (g := gb763) (o := .cells #[.int .i64 a0_0, .slice A0_1 l0_1.length c0_1] 24 (0, 0)) (by (with_reducible repeat (first | refine blk_drewN ?_ _ | refine blk_drew ?_ | refine blk_alloc ?_ _)); exact BK763.out) hb); have n4_ := Aside0.mk (blk_below (g := gb774) (o := .cells #[.int .i64 t769, .slice Ao22 t770.length co22] 30 (0, 0)) (by (with_reducible repeat (first | refine blk_drewN ?_ _ | refine blk_drew ?_ | refine blk_alloc ?_ _)); exact BK774.out) hb); have n5_ := Aside0.mk (blk_below (g := gb779) (o := .cells #[.int .i64 t775, .slice Ao29 t793.length co29] 30 (0, 0)) (by (with_reducible repeat (first | refine blk_drewN ?_ _ | refine blk_drew ?_ | refine blk_alloc ?_ _)); exact BK779.out) hb); have n6_ := Aside0.mk (blk_below (g := gb785) (o := .cells #[.int .i64 t780, .slice Ao36 t781.length co36] 30 (0, 0)) (by (with_reducible repeat (first | refine blk_drewN ?_ _ | refine blk_drew ?_ | refine blk_alloc ?_ _)); exact BK785.out) hb); have n7_ := Aside0.mk (below_step (by repeat (first | (with_reducible first | exact HB.out | apply below_alloc | apply pw_below_drewN | apply below_drew1 | refine below_set ?_ GE763.out | refine below_set ?_ GE774.out | refine below_set ?_ GE779.out | refine below_set ?_ GE785.out) | exact HB.out)) hb); clear HO_775001; clear HO_780001; clear HO_786001; clear BK763; clear BK774; clear BK779; clear BK785; clear HB; have HO_775001 := n0_; have HO_780001 := n1_; have HO_786001 := n2_; have BK763 := n3_; have BK774 := n4_; have BK779 := n5_; have BK785 := n6_; have HB := n7_; clear n0_ n1_ n2_ n3_ n4_ n5_ n6_ n7_; (try clear hb); (try clear hb2); (try clear hk); (try clear hi); have hnb111 := NB763_774.out; have hnc111 := NB774_763.out; have hnb112 := NB763_779.out; have hnc112 := NB779_763.out; have hcz113_0 : w110.cell? ⟨gb763, 0, none⟩ = some (.int .i64 a0_0) := (blk_cell BK763.out 0).trans rfl; have hcz113_1 : w110.cell? ⟨gb763, 1, none⟩ = some (.slice A0_1 l0_1.length c0_1) := (blk_cell BK763.out 1).trans rfl; have hfz113_0 := blk_frozen BK763.out 0; have hfz113_1 := blk_frozen BK763.out 1) | ((with_reducible refine gate_callee (f := 13) rfl ?_); refine goesL_ (some 75) rfl rfl Try.func13 (by kernel_rfl) rfl #[.agg #[.int .i64 a0_0, .slice A0_1 l0_1.length c0_1]] rfl (by (try simp only [List.map_toArray, List.map_cons, List.map_nil]); first | done | rfl | (simp only [List.length_drop, List.length_take]; rfl)) ?_; (with_reducible refine (laws_toParty.calls kj59 a0_0 _ _ l0_1 t798 t799 _ ?side1 ?side2 A101.out).mono ?_); (case side1 => repeat (first | exact (Kd.C_below HR0_1.out HB.out) | (with_reducible refine Kd.C_alloc ?_ _) | (with_reducible refine Kd.C_drewN ?_ _) | (with_reducible refine Kd.C_drew ?_))); (case side2 => exact HC0_1.out); rintro e w114 ⟨v800, rfl, ho0, hb⟩; refine ⟨_, rfl, ?_⟩; have n0_ := Aside0.mk (Kd.R_elder' (by (with_reducible repeat (first | apply Kd.R_alloc | apply Kd.R_drewN | apply Kd.R_drew)); exact HO_775001.out) (Kd.R_base ho0) hb); have n1_ := Aside0.mk (Kd.R_elder' (by (with_reducible repeat (first | apply Kd.R_alloc | apply Kd.R_drewN | apply Kd.R_drew)); exact HO_780001.out) (Kd.R_base ho0) hb); have n2_ := Aside0.mk (Kd.R_elder' (by (with_reducible repeat (first | apply Kd.R_alloc | apply Kd.R_drewN | apply Kd.R_drew)); exact HO_786001.out) (Kd.R_base ho0) hb); have n3_ := Aside0.mk (Kd.R_lower (Kd.R_new' (Kd.R_new' (Kd.R_new' ho0 (Kd.R_lt (by (with_reducible repeat (first | apply Kd.R_alloc | apply Kd.R_drewN | apply Kd.R_drew)); exact HO_775001.out))) (Kd.R_lt (by (with_reducible repeat (first | apply Kd.R_alloc | apply Kd.R_drewN | apply Kd.R_drew)); exact HO_780001.out))) (Kd.R_lt (by (with_reducible repeat (first | apply Kd.R_alloc | apply Kd.R_drewN | apply Kd.R_drew)); exact HO_786001.out))) (below_size (by repeat (first | (with_reducible first | exact HB.out | apply below_alloc | apply pw_below_drewN | apply below_drew1 | refine below_set ?_ GE763.out | refine below_set ?_ GE774.out | refine below_set ?_ GE779.out | refine below_set ?_ GE785.out) | exact HB.out)))); have n4_ := Aside0.mk (blk_below (g := gb763) (o := .cells #[.int .i64 a0_0, .slice A0_1 l0_1.length c0_1] 24 (0, 0)) (by (with_reducible repeat (first | refine blk_drewN ?_ _ | refine blk_drew ?_ | refine blk_alloc ?_ _)); exact BK763.out) hb); have n5_ := Aside0.mk (blk_below (g := gb774) (o := .cells #[.int .i64 t769, .slice Ao22 t770.length co22] 30 (0, 0)) (by (with_reducible repeat (first | refine blk_drewN ?_ _ | refine blk_drew ?_ | refine blk_alloc ?_ _)); exact BK774.out) hb); have n6_ := Aside0.mk (blk_below (g := gb779) (o := .cells #[.int .i64 t775, .slice Ao29 t793.length co29] 30 (0, 0)) (by (with_reducible repeat (first | refine blk_drewN ?_ _ | refine blk_drew ?_ | refine blk_alloc ?_ _)); exact BK779.out) hb); have n7_ := Aside0.mk (blk_below (g := gb785) (o := .cells #[.int .i64 t780, .slice Ao36 t781.length co36] 30 (0, 0)) (by (with_reducible repeat (first | refine blk_drewN ?_ _ | refine blk_drew ?_ | refine blk_alloc ?_ _)); exact BK785.out) hb); have n8_ := Aside0.mk (below_step (by repeat (first | (with_reducible first | exact HB.out | apply below_alloc | apply pw_below_drewN | apply below_drew1 | refine below_set ?_ GE763.out | refine below_set ?_ GE774.out | refine below_set ?_ GE779.out | refine below_set ?_ GE785.out) | exact HB.out)) hb); clear HO_775001; clear HO_780001; clear HO_786001; clear BK763; clear BK774; clear BK779; clear BK785; clear HB; have HO_775001 := n0_; have HO_780001 := n1_; have HO_786001 := n2_; have HO801 := n3_; have BK763 := n4_; have BK774 := n5_; have BK779 := n6_; have BK785 := n7_; have HB := n8_; clear n0_ n1_ n2_ n3_ n4_ n5_ n6_ n7_ n8_; (try clear hb); (try clear hb2); (try clear hk); (try clear hi); (try clear ho0); obtain ⟨Ao115, co115, eo115⟩ := Kd.R_slice HO801.out; subst eo115) | ((with_reducible refine gate_callee (f := 39) rfl ?_); refine goesL_ (some 76) rfl rfl Try.func39 (by kernel_rfl) rfl #[.agg #[.int .i64 t798, .slice Ao115 t799.length co115]] rfl (by (try simp only [List.map_toArray, List.map_cons, List.map_nil]); first | done | rfl | (simp only [List.length_drop, List.length_take]; rfl)) ?_; (with_reducible refine (impl_LinesOf.calls kj59 t798 _ _ t799 t802 t803 t806 _ ?side1 ?side2 A102.out).mono ?_); (case side1 => repeat (first | exact (Kd.R_reads' HO801.out).2.2 | (with_reducible refine Kd.C_alloc ?_ _) | (with_reducible refine Kd.C_drewN ?_ _) | (with_reducible refine Kd.C_drew ?_))); (case side2 => exact (Kd.R_reads' HO801.out).2.1); rintro e w116 ⟨v804, rfl, ho0, hb⟩; refine ⟨_, rfl, ?_⟩; have n0_ := Aside0.mk (Kd.R_elder' (by (with_reducible repeat (first | apply Kd.R_alloc | apply Kd.R_drewN | apply Kd.R_drew)); exact HO_775001.out) (Kd.R_base ho0) hb); have n1_ := Aside0.mk (Kd.R_elder' (by (with_reducible repeat (first | apply Kd.R_alloc | apply Kd.R_drewN | apply Kd.R_drew)); exact HO_780001.out) (Kd.R_base ho0) hb); have n2_ := Aside0.mk (Kd.R_elder' (by (with_reducible repeat (first | apply Kd.R_alloc | apply Kd.R_drewN | apply Kd.R_drew)); exact HO_786001.out) (Kd.R_base ho0) hb); have n3_ := Aside0.mk (Kd.R_elder' (by (with_reducible repeat (first | apply Kd.R_alloc | apply Kd.R_drewN | apply Kd.R_drew)); exact HO801.out) (Kd.R_base ho0) hb); have n4_ := Aside0.mk (Kd.R_lower (Kd.R_new' (Kd.R_new' (Kd.R_new' (Kd.R_new' ho0 (Kd.R_lt (by (with_reducible repeat (first | apply Kd.R_alloc | apply Kd.R_drewN | apply Kd.R_drew)); exact HO_775001.out))) (Kd.R_lt (by (with_reducible repeat (first | apply Kd.R_alloc | apply Kd.R_drewN | apply Kd.R_drew)); exact HO_780001.out))) (Kd.R_lt (by (with_reducible repeat (first | apply Kd.R_alloc | apply Kd.R_drewN | apply Kd.R_drew)); exact HO_786001.out))) (Kd.R_lt (by (with_reducible repeat (first | apply Kd.R_alloc | apply Kd.R_drewN | apply Kd.R_drew)); exact HO801.out))) (below_size (by repeat (first | (with_reducible first | exact HB.out | apply below_alloc | apply pw_below_drewN | apply below_drew1 | refine below_set ?_ GE763.out | refine below_set ?_ GE774.out | refine below_set ?_ GE779.out | refine below_set ?_ GE785.out) | exact HB.out)))); have n5_ := Aside0.mk (blk_below (g := gb763) (o := .cells #[.int .i64 a0_0, .slice A0_1 l0_1.length c0_1] 24 (0, 0)) (by (with_reducible repeat (first | refine blk_drewN ?_ _ | refine blk_drew ?_ | refine blk_alloc ?_ _)); exact BK763.out) hb); have n6_ := Aside0.mk (blk_below (g := gb774) (o := .cells #[.int .i64 t769, .slice Ao22 t770.length co22] 30 (0, 0)) (by (with_reducible repeat (first | refine blk_drewN ?_ _ | refine blk_drew ?_ | refine blk_alloc ?_ _)); exact BK774.out) hb); have n7_ := Aside0.mk (blk_below (g := gb779) (o := .cells #[.int .i64 t775, .slice Ao29 t793.length co29] 30 (0, 0)) (by (with_reducible repeat (first | refine blk_drewN ?_ _ | refine blk_drew ?_ | refine blk_alloc ?_ _)); exact BK779.out) hb); have n8_ := Aside0.mk (blk_below (g := gb785) (o := .cells #[.int .i64 t780, .slice Ao36 t781.length co36] 30 (0, 0)) (by (with_reducible repeat (first | refine blk_drewN ?_ _ | refine blk_drew ?_ | refine blk_alloc ?_ _)); exact BK785.out) hb); have n9_ := Aside0.mk (below_step (by repeat (first | (with_reducible first | exact HB.out | apply below_alloc | apply pw_below_drewN | apply below_drew1 | refine below_set ?_ GE763.out | refine below_set ?_ GE774.out | refine below_set ?_ GE779.out | refine below_set ?_ GE785.out) | exact HB.out)) hb); clear HO_775001; clear HO_780001; clear HO_786001; clear HO801; clear BK763; clear BK774; clear BK779; clear BK785; clear HB; have HO_775001 := n0_; have HO_780001 := n1_; have HO_786001 := n2_; have HO801 := n3_; have HO805 := n4_; have BK763 := n5_; have BK774 := n6_; have BK779 := n7_; have BK785 := n8_; have HB := n9_; clear n0_ n1_ n2_ n3_ n4_ n5_ n6_ n7_ n8_ n9_; (try clear hb); (try clear hb2); (try clear hk); (try clear hi); (try clear ho0)) | ((with_reducible refine gate_dst (N := 12) rfl ?_); refine box_event ?hg (N := 12) ?hd (cs := #[.int .i64 0, .slice none 0 0]) (t := 30) ?hr ?_; (case hd => rfl); (case hg => rfl); (case hr => first | (go_simp; done) | (go_simp; rfl)); intro gb807 hg w117 hbox hb; have n0_ := Aside0.mk (Kd.R_below (by (with_reducible repeat (first | apply Kd.R_alloc | apply Kd.R_drewN | apply Kd.R_drew)); exact HO_775001.out) hb); have n1_ := Aside0.mk (Kd.R_below (by (with_reducible repeat (first | apply Kd.R_alloc | apply Kd.R_drewN | apply Kd.R_drew)); exact HO_780001.out) hb); have n2_ := Aside0.mk (Kd.R_below (by (with_reducible repeat (first | apply Kd.R_alloc | apply Kd.R_drewN | apply Kd.R_drew)); exact HO_786001.out) hb); have n3_ := Aside0.mk (Kd.R_below (by (with_reducible repeat (first | apply Kd.R_alloc | apply Kd.R_drewN | apply Kd.R_drew)); exact HO801.out) hb); have n4_ := Aside0.mk (Kd.R_below (by (with_reducible repeat (first | apply Kd.R_alloc | apply Kd.R_drewN | apply Kd.R_drew)); exact HO805.out) hb); have n5_ := Aside0.mk (blk_below (g := gb763) (o := .cells #[.int .i64 a0_0, .slice A0_1 l0_1.length c0_1] 24 (0, 0)) (by (with_reducible repeat (first | refine blk_drewN ?_ _ | refine blk_drew ?_ | refine blk_alloc ?_ _)); exact BK763.out) hb); have n6_ := Aside0.mk (blk_below (g := gb774) (o := .cells #[.int .i64 t769, .slice Ao22 t770.length co22] 30 (0, 0)) (by (with_reducible repeat (first | refine blk_drewN ?_ _ | refine blk_drew ?_ | refine blk_alloc ?_ _)); exact BK774.out) hb); have n7_ := Aside0.mk (blk_below (g := gb779) (o := .cells #[.int .i64 t775, .slice Ao29 t793.length co29] 30 (0, 0)) (by (with_reducible repeat (first | refine blk_drewN ?_ _ | refine blk_drew ?_ | refine blk_alloc ?_ _)); exact BK779.out) hb); have n8_ := Aside0.mk (blk_below (g := gb785) (o := .cells #[.int .i64 t780, .slice Ao36 t781.length co36] 30 (0, 0)) (by (with_reducible repeat (first | refine blk_drewN ?_ _ | refine blk_drew ?_ | refine blk_alloc ?_ _)); exact BK785.out) hb); have n9_ := Aside0.mk (below_step (by repeat (first | (with_reducible first | exact HB.out | apply below_alloc | apply pw_below_drewN | apply below_drew1 | refine below_set ?_ GE763.out | refine below_set ?_ GE774.out | refine below_set ?_ GE779.out | refine below_set ?_ GE785.out) | exact HB.out)) hb); have n10_ := Aside0.mk (hbox); have n11_ := Aside0.mk ((by rw [hg]; exact (below_size (by repeat (first | (with_reducible first | exact HB.out | apply below_alloc | apply pw_below_drewN | apply below_drew1 | refine below_set ?_ GE763.out | refine below_set ?_ GE774.out | refine below_set ?_ GE779.out | refine below_set ?_ GE785.out) | exact HB.out))) : w.heap.size ≤ gb807)); have n12_ := n11_; have n13_ := Aside0.mk ((by rw [hg]; exact Nat.ne_of_lt (blk_lt (g := gb763) (o := .cells #[.int .i64 a0_0, .slice A0_1 l0_1.length c0_1] 24 (0, 0)) (by (with_reducible repeat (first | refine blk_drewN ?_ _ | refine blk_drew ?_ | refine blk_alloc ?_ _)); exact BK763.out)) : gb763 ≠ gb807)); have n14_ := Aside0.mk n13_.out.symm; have n15_ := Aside0.mk ((by rw [hg]; exact Nat.ne_of_lt (blk_lt (g := gb774) (o := .cells #[.int .i64 t769, .slice Ao22 t770.length co22] 30 (0, 0)) (by (with_reducible repeat (first | refine blk_drewN ?_ _ | refine blk_drew ?_ | refine blk_alloc ?_ _)); exact BK774.out)) : gb774 ≠ gb807)); have n16_ := Aside0.mk n15_.out.symm; have n17_ := Aside0.mk ((by rw [hg]; exact Nat.ne_of_lt (blk_lt (g := gb779) (o := .cells #[.int .i64 t775, .slice Ao29 t793.length co29] 30 (0, 0)) (by (with_reducible repeat (first | refine blk_drewN ?_ _ | refine blk_drew ?_ | refine blk_alloc ?_ _)); exact BK779.out)) : gb779 ≠ gb807)); have n18_ := Aside0.mk n17_.out.symm; have n19_ := Aside0.mk ((by rw [hg]; exact Nat.ne_of_lt (blk_lt (g := gb785) (o := .cells #[.int .i64 t780, .slice Ao36 t781.length co36] 30 (0, 0)) (by (with_reducible repeat (first | refine blk_drewN ?_ _ | refine blk_drew ?_ | refine blk_alloc ?_ _)); exact BK785.out)) : gb785 ≠ gb807)); have n20_ := Aside0.mk n19_.out.symm; clear HO_775001; clear HO_780001; clear HO_786001; clear HO801; clear HO805; clear BK763; clear BK774; clear BK779; clear BK785; clear HB; have HO_775001 := n0_; have HO_780001 := n1_; have HO_786001 := n2_; have HO801 := n3_; have HO805 := n4_; have BK763 := n5_; have BK774 := n6_; have BK779 := n7_; have BK785 := n8_; have HB := n9_; have BK807 := n10_; have GW807 := n11_; have GE807 := n12_; have NB763_807 := n13_; have NB807_763 := n14_; have NB774_807 := n15_; have NB807_774 := n16_; have NB779_807 := n17_; have NB807_779 := n18_; have NB785_807 := n19_; have NB807_785 := n20_; clear n0_ n1_ n2_ n3_ n4_ n5_ n6_ n7_ n8_ n9_ n10_ n11_ n12_ n13_ n14_ n15_ n16_ n17_ n18_ n19_ n20_; clear hb hbox hg; have hnb118 := NB807_763.out; have hnc118 := NB763_807.out; have hnb119 := NB807_774.out; have hnc119 := NB774_807.out; have hnb120 := NB807_779.out; have hnc120 := NB779_807.out; have hnb121 := NB807_785.out; have hnc121 := NB785_807.out; have hcz122_0 : w117.cell? ⟨gb807, 0, none⟩ = some (.int .i64 0) := (blk_cell BK807.out 0).trans rfl; have hcz122_1 : w117.cell? ⟨gb807, 1, none⟩ = some (.slice none 0 0) := (blk_cell BK807.out 1).trans rfl; have hfz122_0 := blk_frozen BK807.out 0; have hfz122_1 := blk_frozen BK807.out 1; obtain ⟨Ao123, co123, eo123⟩ := Kd.R_slice HO805.out; subst eo123))
           (try simp only [Act.put, List.setIfInBounds_toArray, List.set_cons_zero, List.set_cons_succ])
           go_cut [87] (fun v87 wc => ∃ (kq : Nat) (x87_102 : Bool), v87 = .bool x87_102 ∧ Aside0 (laws_FnExactLinesOf.j2 kq t795 x87_102 t780 t796 = some r) ∧ Aside0 (kq ≤ kj59) ∧ Aside0 (Kd.R k63 63 wc w.heap.size (fun k_ => some k_ ≠ ((.slice Ao29 t793.length co29) : Value).ownBlock ∧ some k_ ≠ ((.slice Ao36 t781.length co36) : Value).ownBlock ∧ some k_ ≠ ((.slice Ao123 t803.length co123) : Value).ownBlock) (.slice Ao22 t770.length co22) t770) ∧ Aside0 (Kd.R k63 63 wc w.heap.size (fun k_ => some k_ ≠ ((.slice Ao22 t770.length co22) : Value).ownBlock ∧ some k_ ≠ ((.slice Ao36 t781.length co36) : Value).ownBlock ∧ some k_ ≠ ((.slice Ao123 t803.length co123) : Value).ownBlock) (.slice Ao29 t793.length co29) t793) ∧ Aside0 (Kd.R k63 63 wc w.heap.size (fun k_ => some k_ ≠ ((.slice Ao22 t770.length co22) : Value).ownBlock ∧ some k_ ≠ ((.slice Ao29 t793.length co29) : Value).ownBlock ∧ some k_ ≠ ((.slice Ao123 t803.length co123) : Value).ownBlock) (.slice Ao36 t781.length co36) t796) ∧ Aside0 (Kd.R k63 63 wc w.heap.size (fun k_ => some k_ ≠ ((.slice Ao22 t770.length co22) : Value).ownBlock ∧ some k_ ≠ ((.slice Ao29 t793.length co29) : Value).ownBlock ∧ some k_ ≠ ((.slice Ao36 t781.length co36) : Value).ownBlock) (.slice Ao123 t803.length co123) t803) ∧ Aside0 (wc.heap[gb763]? = some (.cells #[.int .i64 a0_0, (.slice A0_1 l0_1.length c0_1)] 24 (0, 0))) ∧ Aside0 (wc.heap[gb774]? = some (.cells #[.int .i64 t769, (.slice Ao22 t770.length co22)] 30 (0, 0))) ∧ Aside0 (wc.heap[gb779]? = some (.cells #[.int .i64 t775, (.slice Ao29 t793.length co29)] 30 (0, 0))) ∧ Aside0 (wc.heap[gb785]? = some (.cells #[.int .i64 t780, (.slice Ao36 t781.length co36)] 30 (0, 0))) ∧ Aside0 (wc.heap[gb807]? = some (.cells #[.int .i64 t802, (.slice Ao123 t803.length co123)] 30 (0, 0))) ∧ Aside0 (Below w.heap.size w wc))
           case first =>
            have H := HC103.out
            clear HC103
            replace H := Option.bind_eq_some_iff.mp H
            obtain ⟨t808, A1240, H⟩ := H
            replace H : (if t808 = true then (laws_FnExactLinesOf.j2 kj59 t795 (t806 != t773) t780 t796) else (laws_FnExactLinesOf.j2 kj59 t795 true t780 t796)) = some r := H
            have A124 := Aside0.mk A1240
            clear A1240
            by_cases c125 : t808 = true
            ·subst c125
             have H1 : (laws_FnExactLinesOf.j2 kj59 t795 (t806 != t773) t780 t796) = some r := by rw [if_pos rfl] at H; exact H
             clear H
             have H := H1
             clear H1
             have H' := Aside0.mk H
             clear H
             have hnb126 := NB807_763.out
             have hnc126 := NB763_807.out
             have hnb127 := NB807_774.out
             have hnc127 := NB774_807.out
             have hnb128 := NB807_779.out
             have hnc128 := NB779_807.out
             have hnb129 := NB807_785.out
             have hnc129 := NB785_807.out
             have hcz130_0 : w117.cell? ⟨gb807, 0, none⟩ = some (.int .i64 0) := (blk_cell BK807.out 0).trans rfl
             have hcz130_1 : w117.cell? ⟨gb807, 1, none⟩ = some (.slice none 0 0) := (blk_cell BK807.out 1).trans rfl
             have hfz130_0 := blk_frozen BK807.out 0
             have hfz130_1 := blk_frozen BK807.out 1
             have hnb131 := NB774_763.out
             have hnc131 := NB763_774.out
             have hnb132 := NB774_779.out
             have hnc132 := NB779_774.out
             have hnb133 := NB774_785.out
             have hnc133 := NB785_774.out
             have hcz134_0 : w117.cell? ⟨gb774, 0, none⟩ = some (.int .i64 t769) := (blk_cell BK774.out 0).trans rfl
             have hcz134_1 : w117.cell? ⟨gb774, 1, none⟩ = some (.slice Ao22 t770.length co22) := (blk_cell BK774.out 1).trans rfl
             have hfz134_0 := blk_frozen BK774.out 0
             have hfz134_1 := blk_frozen BK774.out 1
             go_wp2_with (first | ((with_reducible refine gate_callee (f := 15) rfl ?_); refine goesL_ (some 81) rfl rfl Try.func15 (by kernel_rfl) rfl #[.agg #[.int .i64 t802, .slice Ao123 t803.length co123], .agg #[.int .i64 t769, .slice Ao22 t770.length co22]] rfl (by (try simp only [List.map_toArray, List.map_cons, List.map_nil]); first | done | rfl | (simp only [List.length_drop, List.length_take]; rfl)) ?_; (with_reducible refine (laws_eqParty.calls kj59 t802 _ _ t803 t769 _ _ t770 true _ ?side1 ?side2 ?side3 ?side4 A124.out).mono ?_); (case side1 => refine (Kd.R_reads' (e := 63) (base := w.heap.size) (ok := fun k_ => ((((True ∧ some k_ ≠ (.slice Ao22 t770.length co22 : Value).ownBlock) ∧ some k_ ≠ (.slice Ao29 t793.length co29 : Value).ownBlock) ∧ some k_ ≠ (.slice Ao36 t781.length co36 : Value).ownBlock) ∧ some k_ ≠ (.slice Ao115 t799.length co115 : Value).ownBlock)) (n := t803.length) (c := co123) ?_).2.2; exact (by (with_reducible repeat (first | apply Kd.R_alloc | apply Kd.R_drewN | apply Kd.R_drew)); exact (Kd.R_mono (Kd.R_far (p := ⟨gb807, 1, none⟩) (Kd.R_far (p := ⟨gb807, 0, none⟩) (Kd.R_types HO805.out BK807.out (by decide)) (fun _ hk => hk.2) (.int .i64 t802)) (fun _ hk => hk.2) (.slice Ao123 t803.length co123)) (fun _ h_ => h_.1)))); (case side2 => exact (Kd.R_reads' HO805.out).2.1); (case side3 => refine (Kd.R_reads' (e := 63) (base := w.heap.size) (ok := fun k_ => (((some k_ ≠ (.slice Ao29 t793.length co29 : Value).ownBlock ∧ some k_ ≠ (.slice Ao36 t781.length co36 : Value).ownBlock) ∧ some k_ ≠ (.slice Ao115 t799.length co115 : Value).ownBlock) ∧ some k_ ≠ (.slice Ao123 t803.length co123 : Value).ownBlock)) (n := t770.length) (c := co22) ?_).2.2; exact (by (with_reducible repeat (first | apply Kd.R_alloc | apply Kd.R_drewN | apply Kd.R_drew)); exact (Kd.R_mono (Kd.R_far (p := ⟨gb807, 1, none⟩) (Kd.R_far (p := ⟨gb807, 0, none⟩) (Kd.R_types HO_775001.out BK807.out (by decide)) (fun _ hk => hk.2) (.int .i64 t802)) (fun _ hk => hk.2) (.slice Ao123 t803.length co123)) (fun _ h_ => h_.1)))); (case side4 => exact (Kd.R_reads' HO_775001.out).2.1); rintro e w135 ⟨rfl, hb⟩; refine ⟨_, rfl, ?_⟩; have n0_ := Aside0.mk (Kd.R_below (by (with_reducible repeat (first | apply Kd.R_alloc | apply Kd.R_drewN | apply Kd.R_drew)); exact (Kd.R_mono (Kd.R_far (p := ⟨gb807, 1, none⟩) (Kd.R_far (p := ⟨gb807, 0, none⟩) (Kd.R_types HO_775001.out BK807.out (by decide)) (fun _ hk => hk.2) (.int .i64 t802)) (fun _ hk => hk.2) (.slice Ao123 t803.length co123)) (fun _ h_ => h_.1))) hb); have n1_ := Aside0.mk (Kd.R_below (by (with_reducible repeat (first | apply Kd.R_alloc | apply Kd.R_drewN | apply Kd.R_drew)); exact (Kd.R_mono (Kd.R_far (p := ⟨gb807, 1, none⟩) (Kd.R_far (p := ⟨gb807, 0, none⟩) (Kd.R_types HO_780001.out BK807.out (by decide)) (fun _ hk => hk.2) (.int .i64 t802)) (fun _ hk => hk.2) (.slice Ao123 t803.length co123)) (fun _ h_ => h_.1))) hb); have n2_ := Aside0.mk (Kd.R_below (by (with_reducible repeat (first | apply Kd.R_alloc | apply Kd.R_drewN | apply Kd.R_drew)); exact (Kd.R_mono (Kd.R_far (p := ⟨gb807, 1, none⟩) (Kd.R_far (p := ⟨gb807, 0, none⟩) (Kd.R_types HO_786001.out BK807.out (by decide)) (fun _ hk => hk.2) (.int .i64 t802)) (fun _ hk => hk.2) (.slice Ao123 t803.length co123)) (fun _ h_ => h_.1))) hb); have n3_ := Aside0.mk (Kd.R_below (by (with_reducible repeat (first | apply Kd.R_alloc | apply Kd.R_drewN | apply Kd.R_drew)); exact (Kd.R_mono (Kd.R_far (p := ⟨gb807, 1, none⟩) (Kd.R_far (p := ⟨gb807, 0, none⟩) (Kd.R_types HO801.out BK807.out (by decide)) (fun _ hk => hk.2) (.int .i64 t802)) (fun _ hk => hk.2) (.slice Ao123 t803.length co123)) (fun _ h_ => h_.1))) hb); have n4_ := Aside0.mk (Kd.R_below (by (with_reducible repeat (first | apply Kd.R_alloc | apply Kd.R_drewN | apply Kd.R_drew)); exact (Kd.R_mono (Kd.R_far (p := ⟨gb807, 1, none⟩) (Kd.R_far (p := ⟨gb807, 0, none⟩) (Kd.R_types HO805.out BK807.out (by decide)) (fun _ hk => hk.2) (.int .i64 t802)) (fun _ hk => hk.2) (.slice Ao123 t803.length co123)) (fun _ h_ => h_.1))) hb); have n5_ := Aside0.mk (blk_below (g := gb763) (o := .cells #[.int .i64 a0_0, .slice A0_1 l0_1.length c0_1] 24 (0, 0)) (by (with_reducible repeat (first | refine blk_drewN ?_ _ | refine blk_drew ?_ | refine blk_alloc ?_ _)); refine blk_far ?_ NB763_807.out _; (with_reducible repeat (first | refine blk_drewN ?_ _ | refine blk_drew ?_ | refine blk_alloc ?_ _)); refine blk_far ?_ NB763_807.out _; (with_reducible repeat (first | refine blk_drewN ?_ _ | refine blk_drew ?_ | refine blk_alloc ?_ _)); exact BK763.out) hb); have n6_ := Aside0.mk (blk_below (g := gb774) (o := .cells #[.int .i64 t769, .slice Ao22 t770.length co22] 30 (0, 0)) (by (with_reducible repeat (first | refine blk_drewN ?_ _ | refine blk_drew ?_ | refine blk_alloc ?_ _)); refine blk_far ?_ NB774_807.out _; (with_reducible repeat (first | refine blk_drewN ?_ _ | refine blk_drew ?_ | refine blk_alloc ?_ _)); refine blk_far ?_ NB774_807.out _; (with_reducible repeat (first | refine blk_drewN ?_ _ | refine blk_drew ?_ | refine blk_alloc ?_ _)); exact BK774.out) hb); have n7_ := Aside0.mk (blk_below (g := gb779) (o := .cells #[.int .i64 t775, .slice Ao29 t793.length co29] 30 (0, 0)) (by (with_reducible repeat (first | refine blk_drewN ?_ _ | refine blk_drew ?_ | refine blk_alloc ?_ _)); refine blk_far ?_ NB779_807.out _; (with_reducible repeat (first | refine blk_drewN ?_ _ | refine blk_drew ?_ | refine blk_alloc ?_ _)); refine blk_far ?_ NB779_807.out _; (with_reducible repeat (first | refine blk_drewN ?_ _ | refine blk_drew ?_ | refine blk_alloc ?_ _)); exact BK779.out) hb); have n8_ := Aside0.mk (blk_below (g := gb785) (o := .cells #[.int .i64 t780, .slice Ao36 t781.length co36] 30 (0, 0)) (by (with_reducible repeat (first | refine blk_drewN ?_ _ | refine blk_drew ?_ | refine blk_alloc ?_ _)); refine blk_far ?_ NB785_807.out _; (with_reducible repeat (first | refine blk_drewN ?_ _ | refine blk_drew ?_ | refine blk_alloc ?_ _)); refine blk_far ?_ NB785_807.out _; (with_reducible repeat (first | refine blk_drewN ?_ _ | refine blk_drew ?_ | refine blk_alloc ?_ _)); exact BK785.out) hb); have n9_ := Aside0.mk (blk_below (g := gb807) (o := .cells #[.int .i64 t802, .slice Ao123 t803.length co123] 30 (0, 0)) (by (with_reducible repeat (first | refine blk_drewN ?_ _ | refine blk_drew ?_ | refine blk_alloc ?_ _)); refine blk_put (cs := #[.int .i64 t802, .slice none 0 0]) ?_ 1 _ rfl; (with_reducible repeat (first | refine blk_drewN ?_ _ | refine blk_drew ?_ | refine blk_alloc ?_ _)); refine blk_put (cs := #[.int .i64 0, .slice none 0 0]) ?_ 0 _ rfl; (with_reducible repeat (first | refine blk_drewN ?_ _ | refine blk_drew ?_ | refine blk_alloc ?_ _)); exact BK807.out) hb); have n10_ := Aside0.mk (below_step (by repeat (first | (with_reducible first | exact HB.out | apply below_alloc | apply pw_below_drewN | apply below_drew1 | refine below_set ?_ GE763.out | refine below_set ?_ GE774.out | refine below_set ?_ GE779.out | refine below_set ?_ GE785.out | refine below_set ?_ GE807.out) | exact HB.out)) hb); clear HO_775001; clear HO_780001; clear HO_786001; clear HO801; clear HO805; clear BK763; clear BK774; clear BK779; clear BK785; clear BK807; clear HB; have HO_775001 := n0_; have HO_780001 := n1_; have HO_786001 := n2_; have HO801 := n3_; have HO805 := n4_; have BK763 := n5_; have BK774 := n6_; have BK779 := n7_; have BK785 := n8_; have BK807 := n9_; have HB := n10_; clear n0_ n1_ n2_ n3_ n4_ n5_ n6_ n7_ n8_ n9_ n10_; (try clear hb); (try clear hb2); (try clear hk); (try clear hi)))
             go_meet
             case rel => exact ⟨_, ((t806 != t773)), (by first | rfl | (simp; done) | (simp [*]; done)), H', ⟨by have := HJ10.out; have := HJ59.out; first | omega | exact Nat.le_refl _⟩, ⟨by (try simp only [hl780001_59]); (with_reducible repeat (first | apply Kd.R_alloc | apply Kd.R_drewN | apply Kd.R_drew)); exact Kd.R_mono HO_775001.out (fun _ hk => ⟨hk.1.1.1, ⟨hk.1.1.2, hk.2⟩⟩)⟩, ⟨by (try simp only [hl780001_59]); (with_reducible repeat (first | apply Kd.R_alloc | apply Kd.R_drewN | apply Kd.R_drew)); exact Kd.R_mono HO_780001.out (fun _ hk => ⟨hk.1.1.1, ⟨hk.1.1.2, hk.2⟩⟩)⟩, ⟨by (try simp only [hl780001_59]); (with_reducible repeat (first | apply Kd.R_alloc | apply Kd.R_drewN | apply Kd.R_drew)); exact Kd.R_mono HO_786001.out (fun _ hk => ⟨hk.1.1.1, ⟨hk.1.1.2, hk.2⟩⟩)⟩, ⟨by (try simp only [hl780001_59]); (with_reducible repeat (first | apply Kd.R_alloc | apply Kd.R_drewN | apply Kd.R_drew)); exact Kd.R_mono HO805.out (fun _ hk => ⟨hk.1.1.1.2, ⟨hk.1.1.2, hk.1.2⟩⟩)⟩, ⟨by (try simp only [hl780001_59]); (with_reducible repeat (first | refine blk_drewN ?_ _ | refine blk_drew ?_ | refine blk_alloc ?_ _)); exact BK763.out⟩, ⟨by (try simp only [hl780001_59]); (with_reducible repeat (first | refine blk_drewN ?_ _ | refine blk_drew ?_ | refine blk_alloc ?_ _)); exact BK774.out⟩, ⟨by (try simp only [hl780001_59]); (with_reducible repeat (first | refine blk_drewN ?_ _ | refine blk_drew ?_ | refine blk_alloc ?_ _)); exact BK779.out⟩, ⟨by (try simp only [hl780001_59]); (with_reducible repeat (first | refine blk_drewN ?_ _ | refine blk_drew ?_ | refine blk_alloc ?_ _)); exact BK785.out⟩, ⟨by (try simp only [hl780001_59]); (with_reducible repeat (first | refine blk_drewN ?_ _ | refine blk_drew ?_ | refine blk_alloc ?_ _)); exact BK807.out⟩, ⟨by repeat (first | (with_reducible first | exact HB.out | apply below_alloc | apply pw_below_drewN | apply below_drew1 | refine below_set ?_ GE763.out | refine below_set ?_ GE774.out | refine below_set ?_ GE779.out | refine below_set ?_ GE785.out | refine below_set ?_ GE807.out) | exact HB.out)⟩⟩
            ·replace c125 := Bool.eq_false_iff.mpr c125
             subst c125
             have H1 : (laws_FnExactLinesOf.j2 kj59 t795 true t780 t796) = some r := by rw [if_neg (show ¬ (false = true) by decide)] at H; exact H
             clear H
             have H := H1
             clear H1
             have H' := Aside0.mk H
             clear H
             have hnb136 := NB807_763.out
             have hnc136 := NB763_807.out
             have hnb137 := NB807_774.out
             have hnc137 := NB774_807.out
             have hnb138 := NB807_779.out
             have hnc138 := NB779_807.out
             have hnb139 := NB807_785.out
             have hnc139 := NB785_807.out
             have hcz140_0 : w117.cell? ⟨gb807, 0, none⟩ = some (.int .i64 0) := (blk_cell BK807.out 0).trans rfl
             have hcz140_1 : w117.cell? ⟨gb807, 1, none⟩ = some (.slice none 0 0) := (blk_cell BK807.out 1).trans rfl
             have hfz140_0 := blk_frozen BK807.out 0
             have hfz140_1 := blk_frozen BK807.out 1
             have hnb141 := NB774_763.out
             have hnc141 := NB763_774.out
             have hnb142 := NB774_779.out
             have hnc142 := NB779_774.out
             have hnb143 := NB774_785.out
             have hnc143 := NB785_774.out
             have hcz144_0 : w117.cell? ⟨gb774, 0, none⟩ = some (.int .i64 t769) := (blk_cell BK774.out 0).trans rfl
             have hcz144_1 : w117.cell? ⟨gb774, 1, none⟩ = some (.slice Ao22 t770.length co22) := (blk_cell BK774.out 1).trans rfl
             have hfz144_0 := blk_frozen BK774.out 0
             have hfz144_1 := blk_frozen BK774.out 1
             go_wp2_with (first | ((with_reducible refine gate_callee (f := 15) rfl ?_); refine goesL_ (some 81) rfl rfl Try.func15 (by kernel_rfl) rfl #[.agg #[.int .i64 t802, .slice Ao123 t803.length co123], .agg #[.int .i64 t769, .slice Ao22 t770.length co22]] rfl (by (try simp only [List.map_toArray, List.map_cons, List.map_nil]); first | done | rfl | (simp only [List.length_drop, List.length_take]; rfl)) ?_; (with_reducible refine (laws_eqParty.calls kj59 t802 _ _ t803 t769 _ _ t770 false _ ?side1 ?side2 ?side3 ?side4 A124.out).mono ?_); (case side1 => refine (Kd.R_reads' (e := 63) (base := w.heap.size) (ok := fun k_ => ((((True ∧ some k_ ≠ (.slice Ao22 t770.length co22 : Value).ownBlock) ∧ some k_ ≠ (.slice Ao29 t793.length co29 : Value).ownBlock) ∧ some k_ ≠ (.slice Ao36 t781.length co36 : Value).ownBlock) ∧ some k_ ≠ (.slice Ao115 t799.length co115 : Value).ownBlock)) (n := t803.length) (c := co123) ?_).2.2; exact (by (with_reducible repeat (first | apply Kd.R_alloc | apply Kd.R_drewN | apply Kd.R_drew)); exact (Kd.R_mono (Kd.R_far (p := ⟨gb807, 1, none⟩) (Kd.R_far (p := ⟨gb807, 0, none⟩) (Kd.R_types HO805.out BK807.out (by decide)) (fun _ hk => hk.2) (.int .i64 t802)) (fun _ hk => hk.2) (.slice Ao123 t803.length co123)) (fun _ h_ => h_.1)))); (case side2 => exact (Kd.R_reads' HO805.out).2.1); (case side3 => refine (Kd.R_reads' (e := 63) (base := w.heap.size) (ok := fun k_ => (((some k_ ≠ (.slice Ao29 t793.length co29 : Value).ownBlock ∧ some k_ ≠ (.slice Ao36 t781.length co36 : Value).ownBlock) ∧ some k_ ≠ (.slice Ao115 t799.length co115 : Value).ownBlock) ∧ some k_ ≠ (.slice Ao123 t803.length co123 : Value).ownBlock)) (n := t770.length) (c := co22) ?_).2.2; exact (by (with_reducible repeat (first | apply Kd.R_alloc | apply Kd.R_drewN | apply Kd.R_drew)); exact (Kd.R_mono (Kd.R_far (p := ⟨gb807, 1, none⟩) (Kd.R_far (p := ⟨gb807, 0, none⟩) (Kd.R_types HO_775001.out BK807.out (by decide)) (fun _ hk => hk.2) (.int .i64 t802)) (fun _ hk => hk.2) (.slice Ao123 t803.length co123)) (fun _ h_ => h_.1)))); (case side4 => exact (Kd.R_reads' HO_775001.out).2.1); rintro e w145 ⟨rfl, hb⟩; refine ⟨_, rfl, ?_⟩; have n0_ := Aside0.mk (Kd.R_below (by (with_reducible repeat (first | apply Kd.R_alloc | apply Kd.R_drewN | apply Kd.R_drew)); exact (Kd.R_mono (Kd.R_far (p := ⟨gb807, 1, none⟩) (Kd.R_far (p := ⟨gb807, 0, none⟩) (Kd.R_types HO_775001.out BK807.out (by decide)) (fun _ hk => hk.2) (.int .i64 t802)) (fun _ hk => hk.2) (.slice Ao123 t803.length co123)) (fun _ h_ => h_.1))) hb); have n1_ := Aside0.mk (Kd.R_below (by (with_reducible repeat (first | apply Kd.R_alloc | apply Kd.R_drewN | apply Kd.R_drew)); exact (Kd.R_mono (Kd.R_far (p := ⟨gb807, 1, none⟩) (Kd.R_far (p := ⟨gb807, 0, none⟩) (Kd.R_types HO_780001.out BK807.out (by decide)) (fun _ hk => hk.2) (.int .i64 t802)) (fun _ hk => hk.2) (.slice Ao123 t803.length co123)) (fun _ h_ => h_.1))) hb); have n2_ := Aside0.mk (Kd.R_below (by (with_reducible repeat (first | apply Kd.R_alloc | apply Kd.R_drewN | apply Kd.R_drew)); exact (Kd.R_mono (Kd.R_far (p := ⟨gb807, 1, none⟩) (Kd.R_far (p := ⟨gb807, 0, none⟩) (Kd.R_types HO_786001.out BK807.out (by decide)) (fun _ hk => hk.2) (.int .i64 t802)) (fun _ hk => hk.2) (.slice Ao123 t803.length co123)) (fun _ h_ => h_.1))) hb); have n3_ := Aside0.mk (Kd.R_below (by (with_reducible repeat (first | apply Kd.R_alloc | apply Kd.R_drewN | apply Kd.R_drew)); exact (Kd.R_mono (Kd.R_far (p := ⟨gb807, 1, none⟩) (Kd.R_far (p := ⟨gb807, 0, none⟩) (Kd.R_types HO801.out BK807.out (by decide)) (fun _ hk => hk.2) (.int .i64 t802)) (fun _ hk => hk.2) (.slice Ao123 t803.length co123)) (fun _ h_ => h_.1))) hb); have n4_ := Aside0.mk (Kd.R_below (by (with_reducible repeat (first | apply Kd.R_alloc | apply Kd.R_drewN | apply Kd.R_drew)); exact (Kd.R_mono (Kd.R_far (p := ⟨gb807, 1, none⟩) (Kd.R_far (p := ⟨gb807, 0, none⟩) (Kd.R_types HO805.out BK807.out (by decide)) (fun _ hk => hk.2) (.int .i64 t802)) (fun _ hk => hk.2) (.slice Ao123 t803.length co123)) (fun _ h_ => h_.1))) hb); have n5_ := Aside0.mk (blk_below (g := gb763) (o := .cells #[.int .i64 a0_0, .slice A0_1 l0_1.length c0_1] 24 (0, 0)) (by (with_reducible repeat (first | refine blk_drewN ?_ _ | refine blk_drew ?_ | refine blk_alloc ?_ _)); refine blk_far ?_ NB763_807.out _; (with_reducible repeat (first | refine blk_drewN ?_ _ | refine blk_drew ?_ | refine blk_alloc ?_ _)); refine blk_far ?_ NB763_807.out _; (with_reducible repeat (first | refine blk_drewN ?_ _ | refine blk_drew ?_ | refine blk_alloc ?_ _)); exact BK763.out) hb); have n6_ := Aside0.mk (blk_below (g := gb774) (o := .cells #[.int .i64 t769, .slice Ao22 t770.length co22] 30 (0, 0)) (by (with_reducible repeat (first | refine blk_drewN ?_ _ | refine blk_drew ?_ | refine blk_alloc ?_ _)); refine blk_far ?_ NB774_807.out _; (with_reducible repeat (first | refine blk_drewN ?_ _ | refine blk_drew ?_ | refine blk_alloc ?_ _)); refine blk_far ?_ NB774_807.out _; (with_reducible repeat (first | refine blk_drewN ?_ _ | refine blk_drew ?_ | refine blk_alloc ?_ _)); exact BK774.out) hb); have n7_ := Aside0.mk (blk_below (g := gb779) (o := .cells #[.int .i64 t775, .slice Ao29 t793.length co29] 30 (0, 0)) (by (with_reducible repeat (first | refine blk_drewN ?_ _ | refine blk_drew ?_ | refine blk_alloc ?_ _)); refine blk_far ?_ NB779_807.out _; (with_reducible repeat (first | refine blk_drewN ?_ _ | refine blk_drew ?_ | refine blk_alloc ?_ _)); refine blk_far ?_ NB779_807.out _; (with_reducible repeat (first | refine blk_drewN ?_ _ | refine blk_drew ?_ | refine blk_alloc ?_ _)); exact BK779.out) hb); have n8_ := Aside0.mk (blk_below (g := gb785) (o := .cells #[.int .i64 t780, .slice Ao36 t781.length co36] 30 (0, 0)) (by (with_reducible repeat (first | refine blk_drewN ?_ _ | refine blk_drew ?_ | refine blk_alloc ?_ _)); refine blk_far ?_ NB785_807.out _; (with_reducible repeat (first | refine blk_drewN ?_ _ | refine blk_drew ?_ | refine blk_alloc ?_ _)); refine blk_far ?_ NB785_807.out _; (with_reducible repeat (first | refine blk_drewN ?_ _ | refine blk_drew ?_ | refine blk_alloc ?_ _)); exact BK785.out) hb); have n9_ := Aside0.mk (blk_below (g := gb807) (o := .cells #[.int .i64 t802, .slice Ao123 t803.length co123] 30 (0, 0)) (by (with_reducible repeat (first | refine blk_drewN ?_ _ | refine blk_drew ?_ | refine blk_alloc ?_ _)); refine blk_put (cs := #[.int .i64 t802, .slice none 0 0]) ?_ 1 _ rfl; (with_reducible repeat (first | refine blk_drewN ?_ _ | refine blk_drew ?_ | refine blk_alloc ?_ _)); refine blk_put (cs := #[.int .i64 0, .slice none 0 0]) ?_ 0 _ rfl; (with_reducible repeat (first | refine blk_drewN ?_ _ | refine blk_drew ?_ | refine blk_alloc ?_ _)); exact BK807.out) hb); have n10_ := Aside0.mk (below_step (by repeat (first | (with_reducible first | exact HB.out | apply below_alloc | apply pw_below_drewN | apply below_drew1 | refine below_set ?_ GE763.out | refine below_set ?_ GE774.out | refine below_set ?_ GE779.out | refine below_set ?_ GE785.out | refine below_set ?_ GE807.out) | exact HB.out)) hb); clear HO_775001; clear HO_780001; clear HO_786001; clear HO801; clear HO805; clear BK763; clear BK774; clear BK779; clear BK785; clear BK807; clear HB; have HO_775001 := n0_; have HO_780001 := n1_; have HO_786001 := n2_; have HO801 := n3_; have HO805 := n4_; have BK763 := n5_; have BK774 := n6_; have BK779 := n7_; have BK785 := n8_; have BK807 := n9_; have HB := n10_; clear n0_ n1_ n2_ n3_ n4_ n5_ n6_ n7_ n8_ n9_ n10_; (try clear hb); (try clear hb2); (try clear hk); (try clear hi)))
             go_meet
             case rel => exact ⟨_, (true), (by first | rfl | (simp; done) | (simp [*]; done)), H', ⟨by have := HJ10.out; have := HJ59.out; first | omega | exact Nat.le_refl _⟩, ⟨by (try simp only [hl780001_59]); (with_reducible repeat (first | apply Kd.R_alloc | apply Kd.R_drewN | apply Kd.R_drew)); exact Kd.R_mono HO_775001.out (fun _ hk => ⟨hk.1.1.1, ⟨hk.1.1.2, hk.2⟩⟩)⟩, ⟨by (try simp only [hl780001_59]); (with_reducible repeat (first | apply Kd.R_alloc | apply Kd.R_drewN | apply Kd.R_drew)); exact Kd.R_mono HO_780001.out (fun _ hk => ⟨hk.1.1.1, ⟨hk.1.1.2, hk.2⟩⟩)⟩, ⟨by (try simp only [hl780001_59]); (with_reducible repeat (first | apply Kd.R_alloc | apply Kd.R_drewN | apply Kd.R_drew)); exact Kd.R_mono HO_786001.out (fun _ hk => ⟨hk.1.1.1, ⟨hk.1.1.2, hk.2⟩⟩)⟩, ⟨by (try simp only [hl780001_59]); (with_reducible repeat (first | apply Kd.R_alloc | apply Kd.R_drewN | apply Kd.R_drew)); exact Kd.R_mono HO805.out (fun _ hk => ⟨hk.1.1.1.2, ⟨hk.1.1.2, hk.1.2⟩⟩)⟩, ⟨by (try simp only [hl780001_59]); (with_reducible repeat (first | refine blk_drewN ?_ _ | refine blk_drew ?_ | refine blk_alloc ?_ _)); exact BK763.out⟩, ⟨by (try simp only [hl780001_59]); (with_reducible repeat (first | refine blk_drewN ?_ _ | refine blk_drew ?_ | refine blk_alloc ?_ _)); exact BK774.out⟩, ⟨by (try simp only [hl780001_59]); (with_reducible repeat (first | refine blk_drewN ?_ _ | refine blk_drew ?_ | refine blk_alloc ?_ _)); exact BK779.out⟩, ⟨by (try simp only [hl780001_59]); (with_reducible repeat (first | refine blk_drewN ?_ _ | refine blk_drew ?_ | refine blk_alloc ?_ _)); exact BK785.out⟩, ⟨by (try simp only [hl780001_59]); (with_reducible repeat (first | refine blk_drewN ?_ _ | refine blk_drew ?_ | refine blk_alloc ?_ _)); exact BK807.out⟩, ⟨by repeat (first | (with_reducible first | exact HB.out | apply below_alloc | apply pw_below_drewN | apply below_drew1 | refine below_set ?_ GE763.out | refine below_set ?_ GE774.out | refine below_set ?_ GE779.out | refine below_set ?_ GE785.out | refine below_set ?_ GE807.out) | exact HB.out)⟩⟩
           case rest =>
            clear HC103
            try clear c1
            try clear c2
            try clear p2
            try clear c3
            try clear c3b0
            try clear c4
            try clear c5
            try clear c6
            try clear c7
            try clear c8
            try clear c9
            try clear c10
            try clear c11
            try clear c12
            try clear c13
            try clear c14
            try clear c15
            try clear c20
            try clear c26
            try clear c27
            try clear c30
            try clear c31
            try clear c32
            try clear c33
            try clear c34
            try clear c38
            try clear c39
            try clear c40
            try clear c41
            try clear c43
            try clear c44
            try clear c47
            try clear c48
            try clear c49
            try clear c51
            try clear c52
            try clear c55
            try clear c58
            try clear c65
            try clear c66
            try clear c67
            try clear c70
            try clear c70b0
            try clear c72
            try clear c73
            try clear c74
            try clear c75
            try clear c77
            try clear c78
            try clear c81
            try clear c82
            try clear c83
            try clear c85
            try clear c86
            try clear c89
            try clear c92
            try clear c92b0
            try clear c93
            try clear c94
            try clear c95
            try clear c100
            try clear c100b0
            try clear c100b1
            try clear c104
            try clear c105
            try clear c106
            try clear c111
            try clear c112
            try clear c118
            try clear c119
            try clear c120
            try clear c121
            try clear c125
            try clear c126
            try clear c127
            try clear c128
            try clear c129
            try clear c131
            try clear c132
            try clear c133
            try clear c136
            try clear c137
            try clear c138
            try clear c139
            try clear c141
            try clear c142
            try clear c143
            try clear hcz107_0
            try clear hcz107_1
            try clear hcz109_0
            try clear hcz109_1
            try clear hcz113_0
            try clear hcz113_1
            try clear hcz122_0
            try clear hcz122_1
            try clear hcz130_0
            try clear hcz130_1
            try clear hcz134_0
            try clear hcz134_1
            try clear hcz13_0
            try clear hcz13_1
            try clear hcz140_0
            try clear hcz140_1
            try clear hcz144_0
            try clear hcz144_1
            try clear hcz15_0
            try clear hcz15_1
            try clear hcz21_0
            try clear hcz21_1
            try clear hcz23_0
            try clear hcz23_1
            try clear hcz28_0
            try clear hcz28_1
            try clear hcz35_0
            try clear hcz35_1
            try clear hcz42_0
            try clear hcz42_1
            try clear hcz45_0
            try clear hcz45_1
            try clear hcz50_0
            try clear hcz50_1
            try clear hcz53_0
            try clear hcz53_1
            try clear hcz5_0
            try clear hcz5_1
            try clear hcz68_0
            try clear hcz68_1
            try clear hcz76_0
            try clear hcz76_1
            try clear hcz79_0
            try clear hcz79_1
            try clear hcz84_0
            try clear hcz84_1
            try clear hcz87_0
            try clear hcz87_1
            try clear hcz96_0
            try clear hcz96_1
            try clear hcz98_0
            try clear hcz98_1
            try clear hfz107_0
            try clear hfz107_1
            try clear hfz109_0
            try clear hfz109_1
            try clear hfz113_0
            try clear hfz113_1
            try clear hfz122_0
            try clear hfz122_1
            try clear hfz130_0
            try clear hfz130_1
            try clear hfz134_0
            try clear hfz134_1
            try clear hfz13_0
            try clear hfz13_1
            try clear hfz140_0
            try clear hfz140_1
            try clear hfz144_0
            try clear hfz144_1
            try clear hfz15_0
            try clear hfz15_1
            try clear hfz21_0
            try clear hfz21_1
            try clear hfz23_0
            try clear hfz23_1
            try clear hfz28_0
            try clear hfz28_1
            try clear hfz35_0
            try clear hfz35_1
            try clear hfz42_0
            try clear hfz42_1
            try clear hfz45_0
            try clear hfz45_1
            try clear hfz50_0
            try clear hfz50_1
            try clear hfz53_0
            try clear hfz53_1
            try clear hfz5_0
            try clear hfz5_1
            try clear hfz68_0
            try clear hfz68_1
            try clear hfz76_0
            try clear hfz76_1
            try clear hfz79_0
            try clear hfz79_1
            try clear hfz84_0
            try clear hfz84_1
            try clear hfz87_0
            try clear hfz87_1
            try clear hfz96_0
            try clear hfz96_1
            try clear hfz98_0
            try clear hfz98_1
            try clear p2
            obtain ⟨kq, x87_102, rfl, HA, HJ102, HO_775001, HO_780001, HO_786001, HO_808001, BK763, BK774, BK779, BK785, BK807, HB⟩ := hcut
            have hl786001_102 := (Kd.R_reads' HO_786001.out).1
            rw [hl786001_102] at HO_786001
            (try simp only [hl786001_102])
            (try simp only [hl786001_102] at BK763)
            (try simp only [hl786001_102] at BK774)
            (try simp only [hl786001_102] at BK779)
            (try simp only [hl786001_102] at BK785)
            (try simp only [hl786001_102] at BK807)
            (try simp only [hl786001_102] at HO_775001)
            (try simp only [hl786001_102] at HO_780001)
            (try simp only [hl786001_102] at HO_808001)
            cases kq with
            | zero => exact absurd HA.out (by simp [laws_FnExactLinesOf.j2])
            | succ kj102 =>
             have H := HA.out
             clear HA
             simp only [laws_FnExactLinesOf.j2] at H
             by_cases c146 : x87_102 = true
             ·subst c146
              have H1 : (some false) = some r := by rw [if_pos rfl] at H; exact H
              clear H
              have H := H1
              clear H1
              obtain rfl := Option.some.inj H
              go_wp2
              go_ret
              exact ⟨by first | rfl | (simp [errW_none, errW_some] <;> rfl) | (simp [*, errW_none, errW_some] <;> rfl), by repeat (first | (with_reducible first | exact HB.out | apply below_alloc | apply pw_below_drewN | apply below_drew1 | refine below_set ?_ GE763.out | refine below_set ?_ GE774.out | refine below_set ?_ GE779.out | refine below_set ?_ GE785.out | refine below_set ?_ GE807.out) | exact HB.out)⟩
             ·replace c146 := Bool.eq_false_iff.mpr c146
              subst c146
              have H1 : ((laws_heldParty.f kj102 t780 t796 1).bind fun t809 => (if t809 < 0 then (some false) else (if t809 = t795 then (some true) else (some false)))) = some r := by rw [if_neg (show ¬ (false = true) by decide)] at H; exact H
              clear H
              have H := H1
              clear H1
              replace H := Option.bind_eq_some_iff.mp H
              obtain ⟨t809, A1470, H⟩ := H
              replace H : (if t809 < 0 then (some false) else (if t809 = t795 then (some true) else (some false))) = some r := H
              have A147 := Aside0.mk A1470
              clear A1470
              by_cases c148 : t809 < 0
              ·rw [if_pos c148] at H
               have c148b0 : decide (t809 < 0) = true := decide_eq_true c148
               clear c148
               obtain rfl := Option.some.inj H
               have hnb149 := NB785_763.out
               have hnc149 := NB763_785.out
               have hnb150 := NB785_774.out
               have hnc150 := NB774_785.out
               have hnb151 := NB785_779.out
               have hnc151 := NB779_785.out
               have hnb152 := NB785_807.out
               have hnc152 := NB807_785.out
               have hcz153_0 : wc.cell? ⟨gb785, 0, none⟩ = some (.int .i64 t780) := (blk_cell BK785.out 0).trans rfl
               have hcz153_1 : wc.cell? ⟨gb785, 1, none⟩ = some (.slice Ao36 t796.length co36) := (blk_cell BK785.out 1).trans rfl
               have hfz153_0 := blk_frozen BK785.out 0
               have hfz153_1 := blk_frozen BK785.out 1
               go_wp2_with (first | ((with_reducible refine gate_callee (f := 31) rfl ?_); refine goesL_ (some 90) rfl rfl Try.func31 (by kernel_rfl) rfl #[.agg #[.int .i64 t780, .slice Ao36 t796.length co36], .int .i64 1] rfl (by (try simp only [List.map_toArray, List.map_cons, List.map_nil]); first | done | rfl | (simp only [List.length_drop, List.length_take]; rfl)) ?_; (with_reducible refine (laws_heldParty.calls kj102 t780 _ _ t796 1 t809 _ ?side1 ?side2 A147.out).mono ?_); (case side1 => repeat (first | exact (Kd.R_reads' HO_786001.out).2.2 | (with_reducible refine Kd.C_alloc ?_ _) | (with_reducible refine Kd.C_drewN ?_ _) | (with_reducible refine Kd.C_drew ?_))); (case side2 => exact (Kd.R_reads' HO_786001.out).2.1); rintro e w154 ⟨rfl, hb⟩; refine ⟨_, rfl, ?_⟩; have n0_ := Aside0.mk (Kd.R_below (by (with_reducible repeat (first | apply Kd.R_alloc | apply Kd.R_drewN | apply Kd.R_drew)); exact HO_775001.out) hb); have n1_ := Aside0.mk (Kd.R_below (by (with_reducible repeat (first | apply Kd.R_alloc | apply Kd.R_drewN | apply Kd.R_drew)); exact HO_780001.out) hb); have n2_ := Aside0.mk (Kd.R_below (by (with_reducible repeat (first | apply Kd.R_alloc | apply Kd.R_drewN | apply Kd.R_drew)); exact HO_786001.out) hb); have n3_ := Aside0.mk (Kd.R_below (by (with_reducible repeat (first | apply Kd.R_alloc | apply Kd.R_drewN | apply Kd.R_drew)); exact HO_808001.out) hb); have n4_ := Aside0.mk (blk_below (g := gb763) (o := .cells #[.int .i64 a0_0, .slice A0_1 l0_1.length c0_1] 24 (0, 0)) (by (with_reducible repeat (first | refine blk_drewN ?_ _ | refine blk_drew ?_ | refine blk_alloc ?_ _)); exact BK763.out) hb); have n5_ := Aside0.mk (blk_below (g := gb774) (o := .cells #[.int .i64 t769, .slice Ao22 t770.length co22] 30 (0, 0)) (by (with_reducible repeat (first | refine blk_drewN ?_ _ | refine blk_drew ?_ | refine blk_alloc ?_ _)); exact BK774.out) hb); have n6_ := Aside0.mk (blk_below (g := gb779) (o := .cells #[.int .i64 t775, .slice Ao29 t793.length co29] 30 (0, 0)) (by (with_reducible repeat (first | refine blk_drewN ?_ _ | refine blk_drew ?_ | refine blk_alloc ?_ _)); exact BK779.out) hb); have n7_ := Aside0.mk (blk_below (g := gb785) (o := .cells #[.int .i64 t780, .slice Ao36 t796.length co36] 30 (0, 0)) (by (with_reducible repeat (first | refine blk_drewN ?_ _ | refine blk_drew ?_ | refine blk_alloc ?_ _)); exact BK785.out) hb); have n8_ := Aside0.mk (blk_below (g := gb807) (o := .cells #[.int .i64 t802, .slice Ao123 t803.length co123] 30 (0, 0)) (by (with_reducible repeat (first | refine blk_drewN ?_ _ | refine blk_drew ?_ | refine blk_alloc ?_ _)); exact BK807.out) hb); have n9_ := Aside0.mk (below_step (by repeat (first | (with_reducible first | exact HB.out | apply below_alloc | apply pw_below_drewN | apply below_drew1 | refine below_set ?_ GE763.out | refine below_set ?_ GE774.out | refine below_set ?_ GE779.out | refine below_set ?_ GE785.out | refine below_set ?_ GE807.out) | exact HB.out)) hb); clear HO_775001; clear HO_780001; clear HO_786001; clear HO_808001; clear BK763; clear BK774; clear BK779; clear BK785; clear BK807; clear HB; have HO_775001 := n0_; have HO_780001 := n1_; have HO_786001 := n2_; have HO_808001 := n3_; have BK763 := n4_; have BK774 := n5_; have BK779 := n6_; have BK785 := n7_; have BK807 := n8_; have HB := n9_; clear n0_ n1_ n2_ n3_ n4_ n5_ n6_ n7_ n8_ n9_; (try clear hb); (try clear hb2); (try clear hk); (try clear hi)))
               go_ret
               exact ⟨by first | rfl | (simp [errW_none, errW_some] <;> rfl) | (simp [*, errW_none, errW_some] <;> rfl), by repeat (first | (with_reducible first | exact HB.out | apply below_alloc | apply pw_below_drewN | apply below_drew1 | refine below_set ?_ GE763.out | refine below_set ?_ GE774.out | refine below_set ?_ GE779.out | refine below_set ?_ GE785.out | refine below_set ?_ GE807.out) | exact HB.out)⟩
              ·rw [if_neg c148] at H
               have c148b0 : decide (t809 < 0) = false := decide_eq_false c148
               clear c148
               by_cases c155 : t809 = t795
               ·rw [if_pos c155] at H
                have c155b0 : (t809 == t795) = true := beq_iff_eq.mpr c155
                have c155b1 : (t809 != t795) = false := bne_eq_false_iff_eq.mpr c155
                clear c155
                obtain rfl := Option.some.inj H
                have hnb156 := NB785_763.out
                have hnc156 := NB763_785.out
                have hnb157 := NB785_774.out
                have hnc157 := NB774_785.out
                have hnb158 := NB785_779.out
                have hnc158 := NB779_785.out
                have hnb159 := NB785_807.out
                have hnc159 := NB807_785.out
                have hcz160_0 : wc.cell? ⟨gb785, 0, none⟩ = some (.int .i64 t780) := (blk_cell BK785.out 0).trans rfl
                have hcz160_1 : wc.cell? ⟨gb785, 1, none⟩ = some (.slice Ao36 t796.length co36) := (blk_cell BK785.out 1).trans rfl
                have hfz160_0 := blk_frozen BK785.out 0
                have hfz160_1 := blk_frozen BK785.out 1
                go_wp2_with (first | ((with_reducible refine gate_callee (f := 31) rfl ?_); refine goesL_ (some 90) rfl rfl Try.func31 (by kernel_rfl) rfl #[.agg #[.int .i64 t780, .slice Ao36 t796.length co36], .int .i64 1] rfl (by (try simp only [List.map_toArray, List.map_cons, List.map_nil]); first | done | rfl | (simp only [List.length_drop, List.length_take]; rfl)) ?_; (with_reducible refine (laws_heldParty.calls kj102 t780 _ _ t796 1 t809 _ ?side1 ?side2 A147.out).mono ?_); (case side1 => repeat (first | exact (Kd.R_reads' HO_786001.out).2.2 | (with_reducible refine Kd.C_alloc ?_ _) | (with_reducible refine Kd.C_drewN ?_ _) | (with_reducible refine Kd.C_drew ?_))); (case side2 => exact (Kd.R_reads' HO_786001.out).2.1); rintro e w161 ⟨rfl, hb⟩; refine ⟨_, rfl, ?_⟩; have n0_ := Aside0.mk (Kd.R_below (by (with_reducible repeat (first | apply Kd.R_alloc | apply Kd.R_drewN | apply Kd.R_drew)); exact HO_775001.out) hb); have n1_ := Aside0.mk (Kd.R_below (by (with_reducible repeat (first | apply Kd.R_alloc | apply Kd.R_drewN | apply Kd.R_drew)); exact HO_780001.out) hb); have n2_ := Aside0.mk (Kd.R_below (by (with_reducible repeat (first | apply Kd.R_alloc | apply Kd.R_drewN | apply Kd.R_drew)); exact HO_786001.out) hb); have n3_ := Aside0.mk (Kd.R_below (by (with_reducible repeat (first | apply Kd.R_alloc | apply Kd.R_drewN | apply Kd.R_drew)); exact HO_808001.out) hb); have n4_ := Aside0.mk (blk_below (g := gb763) (o := .cells #[.int .i64 a0_0, .slice A0_1 l0_1.length c0_1] 24 (0, 0)) (by (with_reducible repeat (first | refine blk_drewN ?_ _ | refine blk_drew ?_ | refine blk_alloc ?_ _)); exact BK763.out) hb); have n5_ := Aside0.mk (blk_below (g := gb774) (o := .cells #[.int .i64 t769, .slice Ao22 t770.length co22] 30 (0, 0)) (by (with_reducible repeat (first | refine blk_drewN ?_ _ | refine blk_drew ?_ | refine blk_alloc ?_ _)); exact BK774.out) hb); have n6_ := Aside0.mk (blk_below (g := gb779) (o := .cells #[.int .i64 t775, .slice Ao29 t793.length co29] 30 (0, 0)) (by (with_reducible repeat (first | refine blk_drewN ?_ _ | refine blk_drew ?_ | refine blk_alloc ?_ _)); exact BK779.out) hb); have n7_ := Aside0.mk (blk_below (g := gb785) (o := .cells #[.int .i64 t780, .slice Ao36 t796.length co36] 30 (0, 0)) (by (with_reducible repeat (first | refine blk_drewN ?_ _ | refine blk_drew ?_ | refine blk_alloc ?_ _)); exact BK785.out) hb); have n8_ := Aside0.mk (blk_below (g := gb807) (o := .cells #[.int .i64 t802, .slice Ao123 t803.length co123] 30 (0, 0)) (by (with_reducible repeat (first | refine blk_drewN ?_ _ | refine blk_drew ?_ | refine blk_alloc ?_ _)); exact BK807.out) hb); have n9_ := Aside0.mk (below_step (by repeat (first | (with_reducible first | exact HB.out | apply below_alloc | apply pw_below_drewN | apply below_drew1 | refine below_set ?_ GE763.out | refine below_set ?_ GE774.out | refine below_set ?_ GE779.out | refine below_set ?_ GE785.out | refine below_set ?_ GE807.out) | exact HB.out)) hb); clear HO_775001; clear HO_780001; clear HO_786001; clear HO_808001; clear BK763; clear BK774; clear BK779; clear BK785; clear BK807; clear HB; have HO_775001 := n0_; have HO_780001 := n1_; have HO_786001 := n2_; have HO_808001 := n3_; have BK763 := n4_; have BK774 := n5_; have BK779 := n6_; have BK785 := n7_; have BK807 := n8_; have HB := n9_; clear n0_ n1_ n2_ n3_ n4_ n5_ n6_ n7_ n8_ n9_; (try clear hb); (try clear hb2); (try clear hk); (try clear hi)))
                go_ret
                exact ⟨by first | rfl | (simp [errW_none, errW_some] <;> rfl) | (simp [*, errW_none, errW_some] <;> rfl), by repeat (first | (with_reducible first | exact HB.out | apply below_alloc | apply pw_below_drewN | apply below_drew1 | refine below_set ?_ GE763.out | refine below_set ?_ GE774.out | refine below_set ?_ GE779.out | refine below_set ?_ GE785.out | refine below_set ?_ GE807.out) | exact HB.out)⟩
               ·rw [if_neg c155] at H
                have c155b0 : (t809 == t795) = false := beq_eq_false_iff_ne.mpr c155
                have c155b1 : (t809 != t795) = true := bne_iff_ne.mpr c155
                obtain rfl := Option.some.inj H
                have hnb162 := NB785_763.out
                have hnc162 := NB763_785.out
                have hnb163 := NB785_774.out
                have hnc163 := NB774_785.out
                have hnb164 := NB785_779.out
                have hnc164 := NB779_785.out
                have hnb165 := NB785_807.out
                have hnc165 := NB807_785.out
                have hcz166_0 : wc.cell? ⟨gb785, 0, none⟩ = some (.int .i64 t780) := (blk_cell BK785.out 0).trans rfl
                have hcz166_1 : wc.cell? ⟨gb785, 1, none⟩ = some (.slice Ao36 t796.length co36) := (blk_cell BK785.out 1).trans rfl
                have hfz166_0 := blk_frozen BK785.out 0
                have hfz166_1 := blk_frozen BK785.out 1
                go_wp2_with (first | ((with_reducible refine gate_callee (f := 31) rfl ?_); refine goesL_ (some 90) rfl rfl Try.func31 (by kernel_rfl) rfl #[.agg #[.int .i64 t780, .slice Ao36 t796.length co36], .int .i64 1] rfl (by (try simp only [List.map_toArray, List.map_cons, List.map_nil]); first | done | rfl | (simp only [List.length_drop, List.length_take]; rfl)) ?_; (with_reducible refine (laws_heldParty.calls kj102 t780 _ _ t796 1 t809 _ ?side1 ?side2 A147.out).mono ?_); (case side1 => repeat (first | exact (Kd.R_reads' HO_786001.out).2.2 | (with_reducible refine Kd.C_alloc ?_ _) | (with_reducible refine Kd.C_drewN ?_ _) | (with_reducible refine Kd.C_drew ?_))); (case side2 => exact (Kd.R_reads' HO_786001.out).2.1); rintro e w167 ⟨rfl, hb⟩; refine ⟨_, rfl, ?_⟩; have n0_ := Aside0.mk (Kd.R_below (by (with_reducible repeat (first | apply Kd.R_alloc | apply Kd.R_drewN | apply Kd.R_drew)); exact HO_775001.out) hb); have n1_ := Aside0.mk (Kd.R_below (by (with_reducible repeat (first | apply Kd.R_alloc | apply Kd.R_drewN | apply Kd.R_drew)); exact HO_780001.out) hb); have n2_ := Aside0.mk (Kd.R_below (by (with_reducible repeat (first | apply Kd.R_alloc | apply Kd.R_drewN | apply Kd.R_drew)); exact HO_786001.out) hb); have n3_ := Aside0.mk (Kd.R_below (by (with_reducible repeat (first | apply Kd.R_alloc | apply Kd.R_drewN | apply Kd.R_drew)); exact HO_808001.out) hb); have n4_ := Aside0.mk (blk_below (g := gb763) (o := .cells #[.int .i64 a0_0, .slice A0_1 l0_1.length c0_1] 24 (0, 0)) (by (with_reducible repeat (first | refine blk_drewN ?_ _ | refine blk_drew ?_ | refine blk_alloc ?_ _)); exact BK763.out) hb); have n5_ := Aside0.mk (blk_below (g := gb774) (o := .cells #[.int .i64 t769, .slice Ao22 t770.length co22] 30 (0, 0)) (by (with_reducible repeat (first | refine blk_drewN ?_ _ | refine blk_drew ?_ | refine blk_alloc ?_ _)); exact BK774.out) hb); have n6_ := Aside0.mk (blk_below (g := gb779) (o := .cells #[.int .i64 t775, .slice Ao29 t793.length co29] 30 (0, 0)) (by (with_reducible repeat (first | refine blk_drewN ?_ _ | refine blk_drew ?_ | refine blk_alloc ?_ _)); exact BK779.out) hb); have n7_ := Aside0.mk (blk_below (g := gb785) (o := .cells #[.int .i64 t780, .slice Ao36 t796.length co36] 30 (0, 0)) (by (with_reducible repeat (first | refine blk_drewN ?_ _ | refine blk_drew ?_ | refine blk_alloc ?_ _)); exact BK785.out) hb); have n8_ := Aside0.mk (blk_below (g := gb807) (o := .cells #[.int .i64 t802, .slice Ao123 t803.length co123] 30 (0, 0)) (by (with_reducible repeat (first | refine blk_drewN ?_ _ | refine blk_drew ?_ | refine blk_alloc ?_ _)); exact BK807.out) hb); have n9_ := Aside0.mk (below_step (by repeat (first | (with_reducible first | exact HB.out | apply below_alloc | apply pw_below_drewN | apply below_drew1 | refine below_set ?_ GE763.out | refine below_set ?_ GE774.out | refine below_set ?_ GE779.out | refine below_set ?_ GE785.out | refine below_set ?_ GE807.out) | exact HB.out)) hb); clear HO_775001; clear HO_780001; clear HO_786001; clear HO_808001; clear BK763; clear BK774; clear BK779; clear BK785; clear BK807; clear HB; have HO_775001 := n0_; have HO_780001 := n1_; have HO_786001 := n2_; have HO_808001 := n3_; have BK763 := n4_; have BK774 := n5_; have BK779 := n6_; have BK785 := n7_; have BK807 := n8_; have HB := n9_; clear n0_ n1_ n2_ n3_ n4_ n5_ n6_ n7_ n8_ n9_; (try clear hb); (try clear hb2); (try clear hk); (try clear hi)))
                go_ret
                exact ⟨by first | rfl | (simp [errW_none, errW_some] <;> rfl) | (simp [*, errW_none, errW_some] <;> rfl), by repeat (first | (with_reducible first | exact HB.out | apply below_alloc | apply pw_below_drewN | apply below_drew1 | refine below_set ?_ GE763.out | refine below_set ?_ GE774.out | refine below_set ?_ GE779.out | refine below_set ?_ GE785.out | refine below_set ?_ GE807.out) | exact HB.out)⟩
          ·rw [if_neg c100] at H
           have c100b0 : (t797 == t795) = false := beq_eq_false_iff_ne.mpr c100
           have c100b1 : (t797 != t795) = true := bne_iff_ne.mpr c100
           obtain rfl := Option.some.inj H
           have hnb168 := NB785_763.out
           have hnc168 := NB763_785.out
           have hnb169 := NB785_774.out
           have hnc169 := NB774_785.out
           have hnb170 := NB785_779.out
           have hnc170 := NB779_785.out
           have hcz171_0 : wc.cell? ⟨gb785, 0, none⟩ = some (.int .i64 t780) := (blk_cell BK785.out 0).trans rfl
           have hcz171_1 : wc.cell? ⟨gb785, 1, none⟩ = some (.slice Ao36 t781.length co36) := (blk_cell BK785.out 1).trans rfl
           have hfz171_0 := blk_frozen BK785.out 0
           have hfz171_1 := blk_frozen BK785.out 1
           go_wp2_with (first | ((with_reducible refine gate_callee (f := 30) rfl ?_); refine goesL_ (some 64) rfl rfl Try.func30 (by kernel_rfl) rfl #[.agg #[.int .i64 t780, .slice Ao36 t781.length co36], .int .i64 1] rfl (by (try simp only [List.map_toArray, List.map_cons, List.map_nil]); first | done | rfl | (simp only [List.length_drop, List.length_take]; rfl)) ?_; (with_reducible refine (laws_markParty.calls kj59 t780 (fun k_ => some k_ = (.slice Ao36 t781.length co36 : Value).ownBlock) (.slice Ao36 t781.length co36) t781 1 t795 t796 w _ ?side1 ?side2 A90.out).mono ?_); (case side1 => repeat (first | (with_reducible first | exact HB.out | apply below_alloc | apply pw_below_drewN | apply below_drew1 | refine below_set ?_ GE763.out | refine below_set ?_ GE774.out | refine below_set ?_ GE779.out | refine below_set ?_ GE785.out) | exact HB.out)); (case side2 => exact Kd.R_tight rfl HO_786001.out); rintro e w172 ⟨rfl, hy0, hb, hkp⟩; refine ⟨_, rfl, ?_⟩; have n0_ := Aside0.mk (Kd.R_mono (ok' := fun k_ => some k_ ≠ (.slice Ao29 t793.length co29 : Value).ownBlock ∧ some k_ ≠ (.slice Ao36 t781.length co36 : Value).ownBlock) (Kd.R_keptB (HO_775001.out) hkp (fun k_ hk_ hs_ => (hk_.2) hs_)) (fun k_ hk_ => ⟨hk_.1.1, hk_.1.2⟩)); have n1_ := Aside0.mk (Kd.R_mono (ok' := fun k_ => some k_ ≠ (.slice Ao22 t770.length co22 : Value).ownBlock ∧ some k_ ≠ (.slice Ao36 t781.length co36 : Value).ownBlock) (Kd.R_keptB (HO_780001.out) hkp (fun k_ hk_ hs_ => (hk_.2) hs_)) (fun k_ hk_ => ⟨hk_.1.1, hk_.1.2⟩)); have n2_ := Aside0.mk (Kd.R_reok rfl hy0 (fun k_ e_ => HO_786001.out.1 k_ e_)); have n3_ := Aside0.mk (blk_kept (by (with_reducible repeat (first | refine blk_drewN ?_ _ | refine blk_drew ?_ | refine blk_alloc ?_ _)); exact BK763.out) hkp (fun hs_ => (fun e_ => (Kd.R_ne HO_786001.out BK763.out (by decide)) e_) hs_)); have n4_ := Aside0.mk (blk_kept (by (with_reducible repeat (first | refine blk_drewN ?_ _ | refine blk_drew ?_ | refine blk_alloc ?_ _)); exact BK774.out) hkp (fun hs_ => (fun e_ => (Kd.R_ne HO_786001.out BK774.out (by decide)) e_) hs_)); have n5_ := Aside0.mk (blk_kept (by (with_reducible repeat (first | refine blk_drewN ?_ _ | refine blk_drew ?_ | refine blk_alloc ?_ _)); exact BK779.out) hkp (fun hs_ => (fun e_ => (Kd.R_ne HO_786001.out BK779.out (by decide)) e_) hs_)); have n6_ := Aside0.mk (blk_kept (by (with_reducible repeat (first | refine blk_drewN ?_ _ | refine blk_drew ?_ | refine blk_alloc ?_ _)); exact BK785.out) hkp (fun hs_ => (fun e_ => (Kd.R_ne HO_786001.out BK785.out (by decide)) e_) hs_)); have n7_ := Aside0.mk (hb); clear HO_775001; clear HO_780001; clear HO_786001; clear BK763; clear BK774; clear BK779; clear BK785; clear HB; have HO_775001 := n0_; have HO_780001 := n1_; have HO_786001 := n2_; have BK763 := n3_; have BK774 := n4_; have BK779 := n5_; have BK785 := n6_; have HB := n7_; clear n0_ n1_ n2_ n3_ n4_ n5_ n6_ n7_; (try clear hb); (try clear hkp); (try clear hy0); have hcz173_0 : w172.cell? ⟨gb785, 0, none⟩ = some (.int .i64 t780) := (blk_cell BK785.out 0).trans rfl; have hcz173_1 : w172.cell? ⟨gb785, 1, none⟩ = some (.slice Ao36 t781.length co36) := (blk_cell BK785.out 1).trans rfl; have hfz173_0 := blk_frozen BK785.out 0; have hfz173_1 := blk_frozen BK785.out 1) | ((with_reducible refine gate_callee (f := 31) rfl ?_); refine goesL_ (some 67) rfl rfl Try.func31 (by kernel_rfl) rfl #[.agg #[.int .i64 t780, .slice Ao36 t796.length co36], .int .i64 1] rfl (by (try simp only [List.map_toArray, List.map_cons, List.map_nil]); first | done | (rw [show t796.length = t781.length from (Kd.R_reads' HO_786001.out).1.symm] <;> rfl) | rfl | (simp only [List.length_drop, List.length_take]; rfl)) ?_; (with_reducible refine (laws_heldParty.calls kj59 t780 _ _ t796 1 t797 _ ?side1 ?side2 A91.out).mono ?_); (case side1 => repeat (first | exact (Kd.R_reads' HO_786001.out).2.2 | (with_reducible refine Kd.C_alloc ?_ _) | (with_reducible refine Kd.C_drewN ?_ _) | (with_reducible refine Kd.C_drew ?_))); (case side2 => rw [show t796.length = t781.length from (Kd.R_reads' HO_786001.out).1.symm]; exact (Kd.R_reads' HO_786001.out).2.1); rintro e w174 ⟨rfl, hb⟩; refine ⟨_, rfl, ?_⟩; have n0_ := Aside0.mk (Kd.R_below (by (with_reducible repeat (first | apply Kd.R_alloc | apply Kd.R_drewN | apply Kd.R_drew)); exact HO_775001.out) hb); have n1_ := Aside0.mk (Kd.R_below (by (with_reducible repeat (first | apply Kd.R_alloc | apply Kd.R_drewN | apply Kd.R_drew)); exact HO_780001.out) hb); have n2_ := Aside0.mk (Kd.R_below (by (with_reducible repeat (first | apply Kd.R_alloc | apply Kd.R_drewN | apply Kd.R_drew)); exact HO_786001.out) hb); have n3_ := Aside0.mk (blk_below (g := gb763) (o := .cells #[.int .i64 a0_0, .slice A0_1 l0_1.length c0_1] 24 (0, 0)) (by (with_reducible repeat (first | refine blk_drewN ?_ _ | refine blk_drew ?_ | refine blk_alloc ?_ _)); exact BK763.out) hb); have n4_ := Aside0.mk (blk_below (g := gb774) (o := .cells #[.int .i64 t769, .slice Ao22 t770.length co22] 30 (0, 0)) (by (with_reducible repeat (first | refine blk_drewN ?_ _ | refine blk_drew ?_ | refine blk_alloc ?_ _)); exact BK774.out) hb); have n5_ := Aside0.mk (blk_below (g := gb779) (o := .cells #[.int .i64 t775, .slice Ao29 t793.length co29] 30 (0, 0)) (by (with_reducible repeat (first | refine blk_drewN ?_ _ | refine blk_drew ?_ | refine blk_alloc ?_ _)); exact BK779.out) hb); have n6_ := Aside0.mk (blk_below (g := gb785) (o := .cells #[.int .i64 t780, .slice Ao36 t781.length co36] 30 (0, 0)) (by (with_reducible repeat (first | refine blk_drewN ?_ _ | refine blk_drew ?_ | refine blk_alloc ?_ _)); exact BK785.out) hb); have n7_ := Aside0.mk (below_step (by repeat (first | (with_reducible first | exact HB.out | apply below_alloc | apply pw_below_drewN | apply below_drew1 | refine below_set ?_ GE763.out | refine below_set ?_ GE774.out | refine below_set ?_ GE779.out | refine below_set ?_ GE785.out) | exact HB.out)) hb); clear HO_775001; clear HO_780001; clear HO_786001; clear BK763; clear BK774; clear BK779; clear BK785; clear HB; have HO_775001 := n0_; have HO_780001 := n1_; have HO_786001 := n2_; have BK763 := n3_; have BK774 := n4_; have BK779 := n5_; have BK785 := n6_; have HB := n7_; clear n0_ n1_ n2_ n3_ n4_ n5_ n6_ n7_; (try clear hb); (try clear hb2); (try clear hk); (try clear hi)))
           go_ret
           exact ⟨by first | rfl | (simp [errW_none, errW_some] <;> rfl) | (simp [*, errW_none, errW_some] <;> rfl), by repeat (first | (with_reducible first | exact HB.out | apply below_alloc | apply pw_below_drewN | apply below_drew1 | refine below_set ?_ GE763.out | refine below_set ?_ GE774.out | refine below_set ?_ GE779.out | refine below_set ?_ GE785.out) | exact HB.out)⟩
     ·replace c58 := Bool.eq_false_iff.mpr c58
      subst c58
      have H1 : (some false) = some r := by rw [if_neg (show ¬ (false = true) by decide)] at H; exact H
      clear H
      have H := H1
      clear H1
      obtain rfl := Option.some.inj H
      try go_wp2
      have n0_ := Aside0.mk (Kd.R_drew HO_775001.out)
      have n1_ := Aside0.mk (Kd.R_drew HO_780001.out)
      have n2_ := Aside0.mk (Kd.R_drew HO_786001.out)
      have n3_ := Aside0.mk (blk_drew BK763.out)
      have n4_ := Aside0.mk (blk_drew BK774.out)
      have n5_ := Aside0.mk (blk_drew BK779.out)
      have n6_ := Aside0.mk (blk_drew BK785.out)
      have n7_ := Aside0.mk (below_drew1 HB.out)
      clear HO_775001
      clear HO_780001
      clear HO_786001
      clear BK763
      clear BK774
      clear BK779
      clear BK785
      clear HB
      have HO_775001 := n0_
      have HO_780001 := n1_
      have HO_786001 := n2_
      have BK763 := n3_
      have BK774 := n4_
      have BK779 := n5_
      have BK785 := n6_
      have HB := n7_
      clear n0_ n1_ n2_ n3_ n4_ n5_ n6_ n7_
      refine start_ (n := 5) (S := fun w' => w'.cell? ⟨gb779, 0, none⟩ = some (.int .i64 t775) ∧ w'.cell? ⟨gb779, 1, none⟩ = some (.slice Ao29 t776.length co29) ∧ w'.cell? ⟨gb763, 0, none⟩ = some (.int .i64 a0_0) ∧ w'.cell? ⟨gb763, 1, none⟩ = some (.slice A0_1 l0_1.length c0_1)) (ds := []) #[false, false, false, false, false] (by kernel_rfl) rfl rfl ⟨(blk_cell BK779.out 0).trans rfl, (blk_cell BK779.out 1).trans rfl, (blk_cell BK763.out 0).trans rfl, (blk_cell BK763.out 1).trans rfl⟩ (fun hHeld => ?_)
      generalize wc.drew = w175 at HO_775001 HO_780001 HO_786001 BK763 BK774 BK779 BK785 HB hHeld ⊢
      refine take_ (i := 0) (N := some 41) (v := ?_) (a' := ?_) #[true, false, false, false, false] rfl rfl (by kernel_rfl) (fun _ _ _ h => h) (Or.inl ⟨by rfl, ?_⟩) hHeld ?_ ?_
      rotate_left
      ·rintro w' ⟨s0, s1, s2, s3⟩
       go_simp
       with_reducible rfl
      rotate_left
      ·simp only [Act.put, List.setIfInBounds_toArray, List.set_cons_zero, List.set_cons_succ, i64_w, i32_w]
       rfl
      refine take_ (i := 1) (N := some 42) (v := ?_) (a' := ?_) #[true, true, false, false, false] rfl rfl (by kernel_rfl) (fun _ _ _ h => h) (Or.inl ⟨by rfl, ?_⟩) hHeld ?_ ?_
      rotate_left
      ·rintro w' ⟨s0, s1, s2, s3⟩
       go_simp
       with_reducible rfl
      rotate_left
      ·simp only [Act.put, List.setIfInBounds_toArray, List.set_cons_zero, List.set_cons_succ, i64_w, i32_w]
       rfl
      refine one_ (i := 2) (N := some 43) #[true, true, true, false, false] rfl rfl (by kernel_rfl) (by decide) (fun K hK => ?_)
      refine goes_ Try.func13 (by kernel_rfl) rfl #[.agg #[.int .i64 a0_0, .slice A0_1 l0_1.length c0_1]] (by rfl) rfl rfl (by (try simp only [List.map_toArray, List.map_cons, List.map_nil]); first | done | rfl | (simp only [List.length_drop, List.length_take]; rfl)) ?_
      with_reducible refine (laws_toParty.calls kj10 a0_0 _ _ l0_1 t787 t788 _ ?side1 ?side2 A56.out).mono ?_
      (case side1 => repeat (first | exact (Kd.C_below HR0_1.out HB.out) | (with_reducible refine Kd.C_alloc ?_ _) | (with_reducible refine Kd.C_drewN ?_ _) | (with_reducible refine Kd.C_drew ?_)))
      (case side2 => exact HC0_1.out)
      rintro e w176 ⟨v789, rfl, ho0, hb⟩
      refine ⟨_, rfl, ?_⟩
      have n0_ := Aside0.mk (Kd.R_elder' (by (with_reducible repeat (first | apply Kd.R_alloc | apply Kd.R_drewN | apply Kd.R_drew)); exact HO_775001.out) (Kd.R_base ho0) hb)
      have n1_ := Aside0.mk (Kd.R_elder' (by (with_reducible repeat (first | apply Kd.R_alloc | apply Kd.R_drewN | apply Kd.R_drew)); exact HO_780001.out) (Kd.R_base ho0) hb)
      have n2_ := Aside0.mk (Kd.R_elder' (by (with_reducible repeat (first | apply Kd.R_alloc | apply Kd.R_drewN | apply Kd.R_drew)); exact HO_786001.out) (Kd.R_base ho0) hb)
      have n3_ := Aside0.mk (Kd.R_lower (Kd.R_new' (Kd.R_new' (Kd.R_new' ho0 (Kd.R_lt (by (with_reducible repeat (first | apply Kd.R_alloc | apply Kd.R_drewN | apply Kd.R_drew)); exact HO_775001.out))) (Kd.R_lt (by (with_reducible repeat (first | apply Kd.R_alloc | apply Kd.R_drewN | apply Kd.R_drew)); exact HO_780001.out))) (Kd.R_lt (by (with_reducible repeat (first | apply Kd.R_alloc | apply Kd.R_drewN | apply Kd.R_drew)); exact HO_786001.out))) (below_size (by repeat (first | (with_reducible first | exact HB.out | apply below_alloc | apply pw_below_drewN | apply below_drew1 | refine below_set ?_ GE763.out | refine below_set ?_ GE774.out | refine below_set ?_ GE779.out | refine below_set ?_ GE785.out) | exact HB.out))))
      have n4_ := Aside0.mk (blk_below (g := gb763) (o := .cells #[.int .i64 a0_0, .slice A0_1 l0_1.length c0_1] 24 (0, 0)) (by (with_reducible repeat (first | refine blk_drewN ?_ _ | refine blk_drew ?_ | refine blk_alloc ?_ _)); exact BK763.out) hb)
      have n5_ := Aside0.mk (blk_below (g := gb774) (o := .cells #[.int .i64 t769, .slice Ao22 t770.length co22] 30 (0, 0)) (by (with_reducible repeat (first | refine blk_drewN ?_ _ | refine blk_drew ?_ | refine blk_alloc ?_ _)); exact BK774.out) hb)
      have n6_ := Aside0.mk (blk_below (g := gb779) (o := .cells #[.int .i64 t775, .slice Ao29 t776.length co29] 30 (0, 0)) (by (with_reducible repeat (first | refine blk_drewN ?_ _ | refine blk_drew ?_ | refine blk_alloc ?_ _)); exact BK779.out) hb)
      have n7_ := Aside0.mk (blk_below (g := gb785) (o := .cells #[.int .i64 t780, .slice Ao36 t781.length co36] 30 (0, 0)) (by (with_reducible repeat (first | refine blk_drewN ?_ _ | refine blk_drew ?_ | refine blk_alloc ?_ _)); exact BK785.out) hb)
      have n8_ := Aside0.mk (below_step (by repeat (first | (with_reducible first | exact HB.out | apply below_alloc | apply pw_below_drewN | apply below_drew1 | refine below_set ?_ GE763.out | refine below_set ?_ GE774.out | refine below_set ?_ GE779.out | refine below_set ?_ GE785.out) | exact HB.out)) hb)
      clear HO_775001
      clear HO_780001
      clear HO_786001
      clear BK763
      clear BK774
      clear BK779
      clear BK785
      clear HB
      have HO_775001 := n0_
      have HO_780001 := n1_
      have HO_786001 := n2_
      have HO790 := n3_
      have BK763 := n4_
      have BK774 := n5_
      have BK779 := n6_
      have BK785 := n7_
      have HB := n8_
      clear n0_ n1_ n2_ n3_ n4_ n5_ n6_ n7_ n8_
      (try clear hb)
      (try clear hb2)
      (try clear hk)
      (try clear hi)
      (try clear ho0)
      obtain ⟨Ao177, co177, eo177⟩ := Kd.R_slice HO790.out
      (first | subst eo177 | (injection eo177 with f1_ f2_ f3_; have f4_ := f1_.symm; have f5_ := f3_.symm; clear f1_ f2_ f3_; subst f4_; subst f5_))
      refine hK.out _ _ ⟨(blk_cell BK779.out 0).trans rfl, (blk_cell BK779.out 1).trans rfl, (blk_cell BK763.out 0).trans rfl, (blk_cell BK763.out 1).trans rfl⟩ (fun hHeld => ?_)
      clear hK K
      refine norm_ (a' := ?_) ?_ ?_
      rotate_left
      ·show Act.put _ (some 43) _ = _
       simp only [Act.put, List.setIfInBounds_toArray, List.set_cons_zero, List.set_cons_succ, i64_w, i32_w]
       rfl
      refine one_ (i := 3) (N := some 44) #[true, true, true, true, false] rfl rfl (by kernel_rfl) (by decide) (fun K hK => ?_)
      refine goes_ Try.func15 (by kernel_rfl) rfl #[.agg #[.int .i64 t775, .slice Ao29 t776.length co29], .agg #[.int .i64 t787, .slice Ao177 t788.length co177]] (by rfl) rfl rfl (by (try simp only [List.map_toArray, List.map_cons, List.map_nil]); first | done | rfl | (simp only [List.length_drop, List.length_take]; rfl)) ?_
      with_reducible refine (laws_eqParty.calls kj10 t775 _ _ t776 t787 _ _ t788 false _ ?side1 ?side2 ?side3 ?side4 A57.out).mono ?_
      (case side1 => repeat (first | exact (Kd.R_reads' HO_780001.out).2.2 | (with_reducible refine Kd.C_alloc ?_ _) | (with_reducible refine Kd.C_drewN ?_ _) | (with_reducible refine Kd.C_drew ?_)))
      (case side2 => exact (Kd.R_reads' HO_780001.out).2.1)
      (case side3 => repeat (first | exact (Kd.R_reads' HO790.out).2.2 | (with_reducible refine Kd.C_alloc ?_ _) | (with_reducible refine Kd.C_drewN ?_ _) | (with_reducible refine Kd.C_drew ?_)))
      (case side4 => exact (Kd.R_reads' HO790.out).2.1)
      rintro e w178 ⟨rfl, hb⟩
      refine ⟨_, rfl, ?_⟩
      have n0_ := Aside0.mk (Kd.R_below (by (with_reducible repeat (first | apply Kd.R_alloc | apply Kd.R_drewN | apply Kd.R_drew)); exact HO_775001.out) hb)
      have n1_ := Aside0.mk (Kd.R_below (by (with_reducible repeat (first | apply Kd.R_alloc | apply Kd.R_drewN | apply Kd.R_drew)); exact HO_780001.out) hb)
      have n2_ := Aside0.mk (Kd.R_below (by (with_reducible repeat (first | apply Kd.R_alloc | apply Kd.R_drewN | apply Kd.R_drew)); exact HO_786001.out) hb)
      have n3_ := Aside0.mk (Kd.R_below (by (with_reducible repeat (first | apply Kd.R_alloc | apply Kd.R_drewN | apply Kd.R_drew)); exact HO790.out) hb)
      have n4_ := Aside0.mk (blk_below (g := gb763) (o := .cells #[.int .i64 a0_0, .slice A0_1 l0_1.length c0_1] 24 (0, 0)) (by (with_reducible repeat (first | refine blk_drewN ?_ _ | refine blk_drew ?_ | refine blk_alloc ?_ _)); exact BK763.out) hb)
      have n5_ := Aside0.mk (blk_below (g := gb774) (o := .cells #[.int .i64 t769, .slice Ao22 t770.length co22] 30 (0, 0)) (by (with_reducible repeat (first | refine blk_drewN ?_ _ | refine blk_drew ?_ | refine blk_alloc ?_ _)); exact BK774.out) hb)
      have n6_ := Aside0.mk (blk_below (g := gb779) (o := .cells #[.int .i64 t775, .slice Ao29 t776.length co29] 30 (0, 0)) (by (with_reducible repeat (first | refine blk_drewN ?_ _ | refine blk_drew ?_ | refine blk_alloc ?_ _)); exact BK779.out) hb)
      have n7_ := Aside0.mk (blk_below (g := gb785) (o := .cells #[.int .i64 t780, .slice Ao36 t781.length co36] 30 (0, 0)) (by (with_reducible repeat (first | refine blk_drewN ?_ _ | refine blk_drew ?_ | refine blk_alloc ?_ _)); exact BK785.out) hb)
      have n8_ := Aside0.mk (below_step (by repeat (first | (with_reducible first | exact HB.out | apply below_alloc | apply pw_below_drewN | apply below_drew1 | refine below_set ?_ GE763.out | refine below_set ?_ GE774.out | refine below_set ?_ GE779.out | refine below_set ?_ GE785.out) | exact HB.out)) hb)
      clear HO_775001
      clear HO_780001
      clear HO_786001
      clear HO790
      clear BK763
      clear BK774
      clear BK779
      clear BK785
      clear HB
      have HO_775001 := n0_
      have HO_780001 := n1_
      have HO_786001 := n2_
      have HO790 := n3_
      have BK763 := n4_
      have BK774 := n5_
      have BK779 := n6_
      have BK785 := n7_
      have HB := n8_
      clear n0_ n1_ n2_ n3_ n4_ n5_ n6_ n7_ n8_
      (try clear hb)
      (try clear hb2)
      (try clear hk)
      (try clear hi)
      refine hK.out _ _ ⟨(blk_cell BK779.out 0).trans rfl, (blk_cell BK779.out 1).trans rfl, (blk_cell BK763.out 0).trans rfl, (blk_cell BK763.out 1).trans rfl⟩ (fun hHeld => ?_)
      clear hK K
      refine norm_ (a' := ?_) ?_ ?_
      rotate_left
      ·show Act.put _ (some 44) _ = _
       simp only [Act.put, List.setIfInBounds_toArray, List.set_cons_zero, List.set_cons_succ, i64_w, i32_w]
       rfl
      refine pure_ (i := 4) (N := some 45) (v := ?_) (a' := ?_) #[true, true, true, true, true] rfl rfl (by kernel_rfl) (fun _ _ _ h => h) (Or.inl ⟨by rfl, ?_⟩) ?_ ?_
      rotate_left
      ·intro w'
       go_simp
       with_reducible rfl
      rotate_left
      ·simp only [Act.put, List.setIfInBounds_toArray, List.set_cons_zero, List.set_cons_succ, i64_w, i32_w]
       rfl
      refine done_ (by kernel_rfl) ?_
      try go_wp2
      go_ret
      exact ⟨by first | rfl | (simp [errW_none, errW_some] <;> rfl) | (simp [*, errW_none, errW_some] <;> rfl), by repeat (first | (with_reducible first | exact HB.out | apply below_alloc | apply pw_below_drewN | apply below_drew1 | refine below_set ?_ GE763.out | refine below_set ?_ GE774.out | refine below_set ?_ GE779.out | refine below_set ?_ GE785.out) | exact HB.out)⟩

end Go.Proofs.Ytipblaifgpnebaa.Q
