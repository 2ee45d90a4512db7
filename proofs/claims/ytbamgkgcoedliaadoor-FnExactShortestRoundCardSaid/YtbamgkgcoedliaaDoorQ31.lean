-- Written by wip/tools/gprint.py (the kit's print, with contracts of this session): Lean checks it.
import Derived.Test.YtbamgkgcoedliaaDoorQ0
import Derived.Test.YtbamgkgcoedliaaDoorQ20
import Derived.Test.YtbamgkgcoedliaaDoorQ21
import Derived.Test.YtbamgkgcoedliaaDoorQ22
import Derived.Test.YtbamgkgcoedliaaDoorQ23
import Derived.Test.YtbamgkgcoedliaaDoorQ30
namespace Go.Proofs.YtbamgkgcoedliaaDoor.Q
open Go.RowKit Go.Proofs.YtbamgkgcoedliaaDoorW.PrintWords Go.Proofs.YtbamgkgcoedliaaDoorW.PrintLast Go.Proofs.YtbamgkgcoedliaaDoorW.PrintMore
attribute [local go_sem] max2_int min2_int max_two min_two max_three min_three max_four min_four   -- for this text's walks alone
set_option linter.unusedVariables false
set_option linter.unusedSimpArgs false

/-! ### impl_ShortestRound: function 7 -/
def impl_ShortestRound.l0 : Nat → Int → List (S39) → Int → Int → Int → List (S39) → Option (Int × Bool)
 | 0, _, _, _, _, _, _ => none
 | k + 1, x4, x13, x14, x15, x273000, x273001 => if x15 < x14 then (if 0 ≤ x15 then (if x15 < (x13.length : Int) then ((impl_Pair_16.f x273001).bind fun t276 => ((impl_Pair_15.f t276 x15 (wrap64 (x15 + 1))).bind fun t279 => ((impl_Party_table.f k x273000 t279).bind fun t283 => ((impl_table_distances.f k t283 ((rd_T39 x13 x15).f0)).bind fun t286 => (if 0 ≤ ((rd_T39 x13 x15).f1) then (if ((rd_T39 x13 x15).f1) < (t286.length : Int) then (if (rd t286 ((rd_T39 x13 x15).f1)) > 0 then (if x4 = 0 then (impl_ShortestRound.l0 k (wrap64 ((rd t286 ((rd_T39 x13 x15).f1)) + 1)) x13 x14 (wrap64 (x15 + 1)) x273000 x273001) else (if (wrap64 ((rd t286 ((rd_T39 x13 x15).f1)) + 1)) < x4 then (impl_ShortestRound.l0 k (wrap64 ((rd t286 ((rd_T39 x13 x15).f1)) + 1)) x13 x14 (wrap64 (x15 + 1)) x273000 x273001) else (impl_ShortestRound.l0 k x4 x13 x14 (wrap64 (x15 + 1)) x273000 x273001))) else (impl_ShortestRound.l0 k x4 x13 x14 (wrap64 (x15 + 1)) x273000 x273001)) else (none)) else (none)))))) else (none)) else (none)) else (some (x4, decide (x4 > 0)))
def impl_ShortestRound.f (k : Nat) (a0_0 : Int) (l0_1 : List (S39)) : Option (Int × Bool) := (impl_IsParty.f k a0_0 l0_1).bind fun t273 => (if t273 = true then (impl_ShortestRound.l0 k 0 l0_1 (l0_1.length : Int) 0 a0_0 l0_1) else (some (0, false)))
theorem impl_ShortestRound.mono_l : ∀ k, (∀ y0 y1 y2 y3 y4 y5, LeO (impl_ShortestRound.l0 k y0 y1 y2 y3 y4 y5) (impl_ShortestRound.l0 (k + 1) y0 y1 y2 y3 y4 y5))
 | 0 => fun _ _ _ _ _ _ r h => by simp [impl_ShortestRound.l0] at h
 | k + 1 => by
  have ih0 := impl_ShortestRound.mono_l k
  ·intro y0 y1 y2 y3 y4 y5
   unfold impl_ShortestRound.l0
   repeat' first
   | (with_reducible exact ih0 _ _ _ _ _ _)
   | (with_reducible exact impl_IsParty.mono _ _ _)
   | (with_reducible exact impl_Party_table.mono _ _ _)
   | (with_reducible exact impl_table_distances.mono _ _ _)
   | (with_reducible exact LeO.refl _)
   | (with_reducible exact LeO.none _)
   | (with_reducible refine LeO.ite ?_ ?_)
   | (with_reducible refine LeO.bind ?_ (fun _ => ?_))
   | exact ih0 _ _ _ _ _ _
   | exact impl_IsParty.mono _ _ _
   | exact impl_Party_table.mono _ _ _
   | exact impl_table_distances.mono _ _ _
   | exact LeO.none _
   | refine LeO.ite ?_ ?_
   | refine LeO.bind ?_ (fun _ => ?_)
theorem impl_ShortestRound.mono : ∀ a0 a1 k, LeO (impl_ShortestRound.f k a0 a1) (impl_ShortestRound.f (k + 1) a0 a1) := by
 intro a0 a1 k
 have ih0 := impl_ShortestRound.mono_l k
 unfold impl_ShortestRound.f
 repeat' first
   | (with_reducible exact ih0 _ _ _ _ _ _)
   | (with_reducible exact impl_IsParty.mono _ _ _)
   | (with_reducible exact impl_Party_table.mono _ _ _)
   | (with_reducible exact impl_table_distances.mono _ _ _)
   | (with_reducible exact LeO.refl _)
   | (with_reducible exact LeO.none _)
   | (with_reducible refine LeO.ite ?_ ?_)
   | (with_reducible refine LeO.bind ?_ (fun _ => ?_))
   | exact ih0 _ _ _ _ _ _
   | exact impl_IsParty.mono _ _ _
   | exact impl_Party_table.mono _ _ _
   | exact impl_table_distances.mono _ _ _
   | exact LeO.none _
   | refine LeO.ite ?_ ?_
   | refine LeO.bind ?_ (fun _ => ?_)
def impl_ShortestRound.T7 : Bool × List (List Nat × List Nat) := (true, [([], []), ([0], [0]), ([], []), ([2], [2]), ([3], [3]), ([], []), ([], []), ([6], [6]), ([4, 5, 7, 4], [4, 5, 7]), ([1, 8], [1, 8]), ([], []), ([10, 9, 8, 0, 1, 2, 3, 4, 5, 6, 7, 8, 9, 10], [9, 10])])
def impl_ShortestRound.B7 : List Nat := [0, 1, 0, 4, 12, 0, 0, 64, 252, 511, 0, 2047]
theorem impl_ShortestRound.tab7 : rtab .any (opsOf Tryd.f7 7) = impl_ShortestRound.T7 := by kernel_rfl
theorem impl_ShortestRound.bits7 : waitsOk impl_ShortestRound.T7.2 impl_ShortestRound.B7 = true := by kernel_rfl
def impl_ShortestRound.T8 : Bool × List (List Nat × List Nat) := (true, [([], []), ([0], [0]), ([], []), ([2], [2]), ([1, 3, 1], [1, 3]), ([], []), ([5], [5]), ([4, 6], [4, 6]), ([7], [7]), ([8, 4, 0, 1, 2, 3, 4, 5, 6, 7, 8], [8])])
def impl_ShortestRound.B8 : List Nat := [0, 1, 0, 4, 15, 0, 32, 127, 255, 511]
theorem impl_ShortestRound.tab8 : rtab .any (opsOf Tryd.f7 8) = impl_ShortestRound.T8 := by kernel_rfl
theorem impl_ShortestRound.bits8 : waitsOk impl_ShortestRound.T8.2 impl_ShortestRound.B8 = true := by kernel_rfl
set_option maxHeartbeats 8000000 in
set_option maxRecDepth 100000 in
theorem impl_ShortestRound.calls (k : Nat) (a0_0 : Int) (A0_1 : Option Addr) (c0_1 : Nat) (l0_1 : List (S39)) (r1 : Int) (r2 : Bool) (w : World) (hG : Tab w) (hr0_1 : Kd.C k39 w A0_1 l0_1.length l0_1) (hc0_1 : l0_1.length ≤ c0_1) (h : impl_ShortestRound.f k a0_0 l0_1 = some (r1, r2)) :
  Calls Tryd.prog 7 #[.agg #[.int .i64 a0_0, .slice A0_1 l0_1.length c0_1]] w fun e w' => e = .returned (.tuple #[.int .i64 r1, .bool r2]) ∧ Below w.heap.size w w' := by
 have HG := Aside0.mk hG
 clear hG
 have hu30 := Tryd.underlying30
 have hu39 := Tryd.underlying39
 have HR0_1 := Aside0.mk hr0_1
 have HC0_1 := Aside0.mk hc0_1
 clear hr0_1 hc0_1
 have HB := Aside0.mk (Below.refl w.heap.size w)
 have H : ((impl_IsParty.f k a0_0 l0_1).bind fun t273 => (if t273 = true then (impl_ShortestRound.l0 k 0 l0_1 (l0_1.length : Int) 0 a0_0 l0_1) else (some (0, false)))) = some (r1, r2) := h
 clear h
 replace H := Option.bind_eq_some_iff.mp H
 obtain ⟨t273, A20, H⟩ := H
 replace H : (if t273 = true then (impl_ShortestRound.l0 k 0 l0_1 (l0_1.length : Int) 0 a0_0 l0_1) else (some (0, false))) = some (r1, r2) := H
 have A2 := Aside0.mk A20
 clear A20
 by_cases c3 : t273 = true
 ·subst c3
  have H1 : (impl_ShortestRound.l0 k 0 l0_1 (l0_1.length : Int) 0 a0_0 l0_1) = some (r1, r2) := by rw [if_pos rfl] at H; exact H
  clear H
  have H := H1
  clear H1
  have H' := Aside0.mk H
  clear H
  go_enter Tryd.func7, Tryd.ntmps7
  go_wp2_with (first | ((with_reducible refine gate_dst (N := 1) rfl ?_); refine box_event ?hg (N := 1) ?hd (cs := #[.int .i64 a0_0, .slice A0_1 l0_1.length c0_1]) (t := 30) ?hr ?_; (case hd => rfl); (case hg => rfl); (case hr => first | (go_simp; done) | (go_simp; rfl)); intro gb272 hg w4 hbox hb; have n0_ := Aside0.mk (qao hB_ hb); have n1_ := Aside0.mk (hbox); have n2_ := Aside0.mk ((by rw [hg]; exact (qap hB_) : w.heap.size ≤ gb272)); have n3_ := n2_; clear HB; have HB := n0_; have BK272 := n1_; have GW272 := n2_; have GE272 := n3_; clear n0_ n1_ n2_ n3_; clear hb hbox hg; have hcz5_0 : w4.cell? ⟨gb272, 0, none⟩ = some (.int .i64 a0_0) := (qaa BK272.out 0).trans rfl; have hcz5_1 : w4.cell? ⟨gb272, 1, none⟩ = some (.slice A0_1 l0_1.length c0_1) := (qaa BK272.out 1).trans rfl; have hfz5_0 := qam BK272.out 0; have hfz5_1 := qam BK272.out 1) | ((with_reducible refine gate_callee (f := 14) rfl ?_); refine goesL_ (some 10) rfl rfl Tryd.func14 (by kernel_rfl) rfl #[.agg #[.int .i64 a0_0, .slice A0_1 l0_1.length c0_1]] rfl mT_ ?_; (with_reducible refine (impl_IsParty.calls k a0_0 _ _ l0_1 true _ ?side1 ?side2 A2.out).mono ?_); (case side1 => repeat (first | exact (Kd.C_below HR0_1.out HB.out) | (with_reducible refine Kd.C_alloc ?_ _) | (with_reducible refine Kd.C_drewN ?_ _) | (with_reducible refine Kd.C_drew ?_))); (case side2 => exact HC0_1.out); rintro e w6 ⟨rfl, hb⟩; refine ⟨_, rfl, ?_⟩; have n0_ := Aside0.mk (qaq (g := gb272) (o := .cells #[.int .i64 a0_0, .slice A0_1 l0_1.length c0_1] 30 (0, 0)) (uB_ BK272.out) hb); have n1_ := Aside0.mk (qao (hB1_ GE272.out) hb); clear BK272; clear HB; have BK272 := n0_; have HB := n1_; clear n0_ n1_; (try clear hb); (try clear hb2); (try clear hk); (try clear hi); have hcz7_0 : w6.cell? ⟨gb272, 0, none⟩ = some (.int .i64 a0_0) := (qaa BK272.out 0).trans rfl; have hcz7_1 : w6.cell? ⟨gb272, 1, none⟩ = some (.slice A0_1 l0_1.length c0_1) := (qaa BK272.out 1).trans rfl; have hfz7_0 := qam BK272.out 0; have hfz7_1 := qam BK272.out 1))
  go_loopg [4, 15] k (fun kq v4 v15 w' => ∃ (x4_1 : Int) (x15_1 : Int), v4 = .int .i64 x4_1 ∧ v15 = .int .i64 x15_1 ∧ Aside0 (impl_ShortestRound.l0 kq x4_1 l0_1 (l0_1.length : Int) x15_1 a0_0 l0_1 = some (r1, r2)) ∧ Aside0 (kq ≤ k) ∧ Aside0 (w'.heap[gb272]? = some (.cells #[.int .i64 a0_0, (.slice A0_1 l0_1.length c0_1)] 30 (0, 0))) ∧ Aside0 (Below w.heap.size w w'))
  case atStart => exact ⟨(0), (0), rS_, rS_, H', ⟨Nat.le_refl _⟩, ⟨by (with_reducible repeat (first | refine qad ?_ _ | refine qab ?_ | refine qae ?_ _)); exact BK272.out⟩, ⟨by repeat (first | (with_reducible first | exact HB.out | apply qal | apply qac | apply qaf | refine qag ?_ GE272.out) | exact HB.out)⟩⟩
  case round =>
   clear H'
   obtain ⟨x4_1, x15_1, rfl, rfl, HA, HK1, BK272, HB⟩ := hrel
   cases gk with
   | zero => exact absurd HA.out (by simp [impl_ShortestRound.l0])
   | succ k1 =>
    have H := HA.out
    clear HA
    simp only [impl_ShortestRound.l0] at H
    by_cases c8 : x15_1 < (l0_1.length : Int)
    ·rw [if_pos c8] at H
     have c8b0 : decide (x15_1 < (l0_1.length : Int)) = true := decide_eq_true c8
     clear c8
     by_cases c9 : 0 ≤ x15_1
     ·rw [if_pos c9] at H
      have c9b0 : decide (0 ≤ x15_1) = true := decide_eq_true c9
      clear c9
      by_cases c10 : x15_1 < (l0_1.length : Int)
      ·rw [if_pos c10] at H
       have c10b0 : decide (x15_1 < (l0_1.length : Int)) = true := decide_eq_true c10
       clear c10
       replace H := Option.bind_eq_some_iff.mp H
       obtain ⟨t276, A110, H⟩ := H
       replace H : ((impl_Pair_15.f t276 x15_1 (wrap64 (x15_1 + 1))).bind fun t279 => ((impl_Party_table.f k1 a0_0 t279).bind fun t283 => ((impl_table_distances.f k1 t283 ((rd_T39 l0_1 x15_1).f0)).bind fun t286 => (if 0 ≤ ((rd_T39 l0_1 x15_1).f1) then (if ((rd_T39 l0_1 x15_1).f1) < (t286.length : Int) then (if (rd t286 ((rd_T39 l0_1 x15_1).f1)) > 0 then (if x4_1 = 0 then (impl_ShortestRound.l0 k1 (wrap64 ((rd t286 ((rd_T39 l0_1 x15_1).f1)) + 1)) l0_1 (l0_1.length : Int) (wrap64 (x15_1 + 1)) a0_0 l0_1) else (if (wrap64 ((rd t286 ((rd_T39 l0_1 x15_1).f1)) + 1)) < x4_1 then (impl_ShortestRound.l0 k1 (wrap64 ((rd t286 ((rd_T39 l0_1 x15_1).f1)) + 1)) l0_1 (l0_1.length : Int) (wrap64 (x15_1 + 1)) a0_0 l0_1) else (impl_ShortestRound.l0 k1 x4_1 l0_1 (l0_1.length : Int) (wrap64 (x15_1 + 1)) a0_0 l0_1))) else (impl_ShortestRound.l0 k1 x4_1 l0_1 (l0_1.length : Int) (wrap64 (x15_1 + 1)) a0_0 l0_1)) else (none)) else (none))))) = some (r1, r2) := H
       have A11 := Aside0.mk A110
       clear A110
       replace H := Option.bind_eq_some_iff.mp H
       obtain ⟨t279, A120, H⟩ := H
       replace H : ((impl_Party_table.f k1 a0_0 t279).bind fun t283 => ((impl_table_distances.f k1 t283 ((rd_T39 l0_1 x15_1).f0)).bind fun t286 => (if 0 ≤ ((rd_T39 l0_1 x15_1).f1) then (if ((rd_T39 l0_1 x15_1).f1) < (t286.length : Int) then (if (rd t286 ((rd_T39 l0_1 x15_1).f1)) > 0 then (if x4_1 = 0 then (impl_ShortestRound.l0 k1 (wrap64 ((rd t286 ((rd_T39 l0_1 x15_1).f1)) + 1)) l0_1 (l0_1.length : Int) (wrap64 (x15_1 + 1)) a0_0 l0_1) else (if (wrap64 ((rd t286 ((rd_T39 l0_1 x15_1).f1)) + 1)) < x4_1 then (impl_ShortestRound.l0 k1 (wrap64 ((rd t286 ((rd_T39 l0_1 x15_1).f1)) + 1)) l0_1 (l0_1.length : Int) (wrap64 (x15_1 + 1)) a0_0 l0_1) else (impl_ShortestRound.l0 k1 x4_1 l0_1 (l0_1.length : Int) (wrap64 (x15_1 + 1)) a0_0 l0_1))) else (impl_ShortestRound.l0 k1 x4_1 l0_1 (l0_1.length : Int) (wrap64 (x15_1 + 1)) a0_0 l0_1)) else (none)) else (none)))) = some (r1, r2) := H
       have A12 := Aside0.mk A120
       clear A120
       replace H := Option.bind_eq_some_iff.mp H
       obtain ⟨t283, A130, H⟩ := H
       replace H : ((impl_table_distances.f k1 t283 ((rd_T39 l0_1 x15_1).f0)).bind fun t286 => (if 0 ≤ ((rd_T39 l0_1 x15_1).f1) then (if ((rd_T39 l0_1 x15_1).f1) < (t286.length : Int) then (if (rd t286 ((rd_T39 l0_1 x15_1).f1)) > 0 then (if x4_1 = 0 then (impl_ShortestRound.l0 k1 (wrap64 ((rd t286 ((rd_T39 l0_1 x15_1).f1)) + 1)) l0_1 (l0_1.length : Int) (wrap64 (x15_1 + 1)) a0_0 l0_1) else (if (wrap64 ((rd t286 ((rd_T39 l0_1 x15_1).f1)) + 1)) < x4_1 then (impl_ShortestRound.l0 k1 (wrap64 ((rd t286 ((rd_T39 l0_1 x15_1).f1)) + 1)) l0_1 (l0_1.length : Int) (wrap64 (x15_1 + 1)) a0_0 l0_1) else (impl_ShortestRound.l0 k1 x4_1 l0_1 (l0_1.length : Int) (wrap64 (x15_1 + 1)) a0_0 l0_1))) else (impl_ShortestRound.l0 k1 x4_1 l0_1 (l0_1.length : Int) (wrap64 (x15_1 + 1)) a0_0 l0_1)) else (none)) else (none))) = some (r1, r2) := H
       have A13 := Aside0.mk A130
       clear A130
       replace H := Option.bind_eq_some_iff.mp H
       obtain ⟨t286, A140, H⟩ := H
       replace H : (if 0 ≤ ((rd_T39 l0_1 x15_1).f1) then (if ((rd_T39 l0_1 x15_1).f1) < (t286.length : Int) then (if (rd t286 ((rd_T39 l0_1 x15_1).f1)) > 0 then (if x4_1 = 0 then (impl_ShortestRound.l0 k1 (wrap64 ((rd t286 ((rd_T39 l0_1 x15_1).f1)) + 1)) l0_1 (l0_1.length : Int) (wrap64 (x15_1 + 1)) a0_0 l0_1) else (if (wrap64 ((rd t286 ((rd_T39 l0_1 x15_1).f1)) + 1)) < x4_1 then (impl_ShortestRound.l0 k1 (wrap64 ((rd t286 ((rd_T39 l0_1 x15_1).f1)) + 1)) l0_1 (l0_1.length : Int) (wrap64 (x15_1 + 1)) a0_0 l0_1) else (impl_ShortestRound.l0 k1 x4_1 l0_1 (l0_1.length : Int) (wrap64 (x15_1 + 1)) a0_0 l0_1))) else (impl_ShortestRound.l0 k1 x4_1 l0_1 (l0_1.length : Int) (wrap64 (x15_1 + 1)) a0_0 l0_1)) else (none)) else (none)) = some (r1, r2) := H
       have A14 := Aside0.mk A140
       clear A140
       by_cases c15 : 0 ≤ ((rd_T39 l0_1 x15_1).f1)
       ·rw [if_pos c15] at H
        have c15b0 : decide (0 ≤ ((rd_T39 l0_1 x15_1).f1)) = true := decide_eq_true c15
        clear c15
        by_cases c16 : ((rd_T39 l0_1 x15_1).f1) < (t286.length : Int)
        ·rw [if_pos c16] at H
         have c16b0 : decide (((rd_T39 l0_1 x15_1).f1) < (t286.length : Int)) = true := decide_eq_true c16
         clear c16
         by_cases c17 : (rd t286 ((rd_T39 l0_1 x15_1).f1)) > 0
         ·rw [if_pos c17] at H
          have c17b0 : decide (0 < (rd t286 ((rd_T39 l0_1 x15_1).f1))) = true := decide_eq_true c17
          clear c17
          by_cases c18 : x4_1 = 0
          ·rw [if_pos c18] at H
           have c18b0 : (x4_1 == 0) = true := beq_iff_eq.mpr c18
           have c18b1 : (x4_1 != 0) = false := bne_eq_false_iff_eq.mpr c18
           clear c18
           have H' := Aside0.mk H
           clear H
           have p274 : 0 ≤ (x15_1 : Int) := oD_
           have q274 : x15_1 < (l0_1.length : Int) := oD_
           obtain ⟨ad274, e274, hx274_0, hx274_1⟩ := at_T39 HR0_1.out x15_1 p274 q274
           cases e274
           (try (replace hx274_0 := (HB.out.cell (World.block_lt_of_cell? w _ hx274_0)).trans hx274_0))
           (try (replace hx274_1 := (HB.out.cell (World.block_lt_of_cell? w _ hx274_1)).trans hx274_1))
           replace p274 := eq_true p274
           replace q274 := eq_true q274
           try go_wp2_with (first | ((with_reducible refine gate_dst (N := 6) rfl ?_); refine box_event ?hg (N := 6) ?hd (cs := #[.int .i64 0, .int .i64 0]) (t := 39) ?hr ?_; (case hd => rfl); (case hg => rfl); (case hr => first | (go_simp; done) | (go_simp; rfl)); intro gb275 hg w19 hbox hb; have n0_ := Aside0.mk (qaq (g := gb272) (o := .cells #[.int .i64 a0_0, .slice (some ad274) l0_1.length c0_1] 30 (0, 0)) (uB_ BK272.out) hb); have n1_ := Aside0.mk (qao (hB1_ GE272.out) hb); have n2_ := Aside0.mk (hbox); have n3_ := Aside0.mk ((by rw [hg]; exact (qap (hB1_ GE272.out)) : w.heap.size ≤ gb275)); have n4_ := n3_; have n5_ := Aside0.mk ((by rw [hg]; exact Nat.ne_of_lt (blk_lt (g := gb272) (o := .cells #[.int .i64 a0_0, .slice (some ad274) l0_1.length c0_1] 30 (0, 0)) (uB_ BK272.out)) : gb272 ≠ gb275)); have n6_ := Aside0.mk n5_.out.symm; clear BK272; clear HB; have BK272 := n0_; have HB := n1_; have BK275 := n2_; have GW275 := n3_; have GE275 := n4_; have NB272_275 := n5_; have NB275_272 := n6_; clear n0_ n1_ n2_ n3_ n4_ n5_ n6_; clear hb hbox hg; have hnb20 := NB275_272.out; have hnc20 := NB272_275.out; have hcz21_0 : w19.cell? ⟨gb275, 0, none⟩ = some (.int .i64 0) := (qaa BK275.out 0).trans rfl; have hcz21_1 : w19.cell? ⟨gb275, 1, none⟩ = some (.int .i64 0) := (qaa BK275.out 1).trans rfl; have hfz21_0 := qam BK275.out 0; have hfz21_1 := qam BK275.out 1))
           have n0_ : Aside0 (((w19.setCell ⟨gb275, 0, none⟩ (.int .i64 ((rd_T39 l0_1 x15_1).f0))).setCell ⟨gb275, 1, none⟩ (.int .i64 ((rd_T39 l0_1 x15_1).f1))).heap[gb272]? = some (.cells #[.int .i64 a0_0, .slice (some ad274) l0_1.length c0_1] 30 (0, 0))) := ⟨by (with_reducible repeat (first | refine qad ?_ _ | refine qab ?_ | refine qae ?_ _)); refine blk_far ?_ NB272_275.out _; (with_reducible repeat (first | refine qad ?_ _ | refine qab ?_ | refine qae ?_ _)); refine blk_far ?_ NB272_275.out _; (with_reducible repeat (first | refine qad ?_ _ | refine qab ?_ | refine qae ?_ _)); exact BK272.out⟩
           have n1_ : Aside0 (((w19.setCell ⟨gb275, 0, none⟩ (.int .i64 ((rd_T39 l0_1 x15_1).f0))).setCell ⟨gb275, 1, none⟩ (.int .i64 ((rd_T39 l0_1 x15_1).f1))).heap[gb275]? = some (.cells #[.int .i64 ((rd_T39 l0_1 x15_1).f0), .int .i64 ((rd_T39 l0_1 x15_1).f1)] 39 (0, 0))) := ⟨by (with_reducible repeat (first | refine qad ?_ _ | refine qab ?_ | refine qae ?_ _)); refine blk_put (cs := #[.int .i64 ((rd_T39 l0_1 x15_1).f0), .int .i64 0]) ?_ 1 _ rfl; (with_reducible repeat (first | refine qad ?_ _ | refine qab ?_ | refine qae ?_ _)); refine blk_put (cs := #[.int .i64 0, .int .i64 0]) ?_ 0 _ rfl; (with_reducible repeat (first | refine qad ?_ _ | refine qab ?_ | refine qae ?_ _)); exact BK275.out⟩
           have n2_ : Aside0 (Below w.heap.size w ((w19.setCell ⟨gb275, 0, none⟩ (.int .i64 ((rd_T39 l0_1 x15_1).f0))).setCell ⟨gb275, 1, none⟩ (.int .i64 ((rd_T39 l0_1 x15_1).f1)))) := ⟨by repeat (first | (with_reducible first | exact HB.out | apply qal | apply qac | apply qaf | refine qag ?_ GE272.out | refine qag ?_ GE275.out) | exact HB.out)⟩
           (try clear BK272)
           (try clear BK275)
           (try clear HB)
           generalize ((w19.setCell ⟨gb275, 0, none⟩ (.int .i64 ((rd_T39 l0_1 x15_1).f0))).setCell ⟨gb275, 1, none⟩ (.int .i64 ((rd_T39 l0_1 x15_1).f1))) = w22 at n0_ n1_ n2_ ⊢
           have BK272 := n0_
           have BK275 := n1_
           have HB := n2_
           clear n0_ n1_ n2_
           have n0_ := Aside0.mk (qab BK272.out)
           have n1_ := Aside0.mk (qab BK275.out)
           have n2_ := Aside0.mk (qaf HB.out)
           clear BK272
           clear BK275
           clear HB
           have BK272 := n0_
           have BK275 := n1_
           have HB := n2_
           clear n0_ n1_ n2_
           refine start_ (n := 12) (S := fun w' => w'.cell? ⟨gb272, 0, none⟩ = some (.int .i64 a0_0) ∧ w'.cell? ⟨gb272, 1, none⟩ = some (.slice (some ad274) l0_1.length c0_1)) (ds := []) #[fF,fF,fF,fF,fF,fF,fF,fF,fF,fF,fF,fF] (by kernel_rfl) rfl rfl ⟨(qaa BK272.out 0).trans rfl, (qaa BK272.out 1).trans rfl⟩ (fun hHeld => ?_); refine with_tabW impl_ShortestRound.tab7 impl_ShortestRound.bits7 (fun HT_ HW_ => ?_)
           generalize w22.drew = w23 at BK272 BK275 HB hHeld ⊢
           refine qan (i := 0) (N := some 20) (v := ?_) (a' := ?_) #[tT,fF,fF,fF,fF,fF,fF,fF,fF,fF,fF,fF] rfl rfl (aO_ HT_.out) (fun _ _ _ h => h) (.inl ⟨by rfl, ?_⟩) ?_ ?_
           rotate_left
           ·intro w'
            go_simp
            with_reducible rfl
           rotate_left
           ·simp only [Act.put, sP_, qai, qaj]
            rfl
           refine qan (i := 2) (N := some 22) (v := ?_) (a' := ?_) #[tT,fF,tT,fF,fF,fF,fF,fF,fF,fF,fF,fF] rfl rfl (aO_ HT_.out) (fun _ _ _ h => h) (.inl ⟨by rfl, ?_⟩) ?_ ?_
           rotate_left
           ·intro w'
            go_simp
            with_reducible rfl
           rotate_left
           ·simp only [Act.put, sP_, qai, qaj]
            rfl
           refine qan (i := 5) (N := some 25) (v := ?_) (a' := ?_) #[tT,fF,tT,fF,fF,tT,fF,fF,fF,fF,fF,fF] rfl rfl (aO_ HT_.out) (fun _ _ _ h => h) (.inl ⟨by rfl, ?_⟩) ?_ ?_
           rotate_left
           ·intro w'
            go_simp
            with_reducible rfl
           rotate_left
           ·simp only [Act.put, sP_, qai, qaj]
            rfl
           refine qan (i := 6) (N := some 26) (v := ?_) (a' := ?_) #[tT,fF,tT,fF,fF,tT,tT,fF,fF,fF,fF,fF] rfl rfl (aO_ HT_.out) (fun _ _ _ h => h) (.inl ⟨by rfl, ?_⟩) ?_ ?_
           rotate_left
           ·intro w'
            go_simp
            with_reducible rfl
           rotate_left
           ·simp only [Act.put, sP_, qai, qaj]
            rfl
           refine qan (i := 7) (N := some 27) (v := ?_) (a' := ?_) #[tT,fF,tT,fF,fF,tT,tT,tT,fF,fF,fF,fF] rfl rfl (aO_ HT_.out) (fun _ _ _ h => h) (.inl ⟨by rfl, ?_⟩) ?_ ?_
           rotate_left
           ·intro w'
            go_simp
            with_reducible rfl
           rotate_left
           ·simp only [Act.put, sP_, qai, qaj]
            rfl
           refine take_ (i := 1) (N := some 21) (v := ?_) (a' := ?_) #[tT,tT,tT,fF,fF,tT,tT,tT,fF,fF,fF,fF] rfl rfl (qar HT_.out HW_.out (by kernel_rfl)) (fun _ _ _ h => h) (Or.inl ⟨by rfl, ?_⟩) hHeld ?_ ?_
           rotate_left
           ·rintro w' ⟨s0, s1⟩
            go_simp
            with_reducible rfl
           rotate_left
           ·simp only [Act.put, sP_, qai, qaj]
            rfl
           refine take_ (i := 3) (N := some 23) (v := ?_) (a' := ?_) #[tT,tT,tT,tT,fF,tT,tT,tT,fF,fF,fF,fF] rfl rfl (qar HT_.out HW_.out (by kernel_rfl)) (fun _ _ _ h => h) (Or.inl ⟨by rfl, ?_⟩) hHeld ?_ ?_
           rotate_left
           ·rintro w' ⟨s0, s1⟩
            go_simp
            with_reducible rfl
           rotate_left
           ·simp only [Act.put, sP_, qai, qaj]
            rfl
           refine join_ (σ := Value × Value × Nat) 1 #[tT,tT,tT,tT,tT,tT,tT,tT,tT,tT,tT,fF] (fun s_ => [(24, s_.1), (28, s_.2.1), (7, .pointer (some ⟨s_.2.2, 0, none⟩)), (29, .agg #[.int .i64 a0_0, s_.2.1])]) (fun s_ w' => (w'.cell? ⟨gb272, 0, none⟩ = some (.int .i64 a0_0) ∧ w'.cell? ⟨gb272, 1, none⟩ = some (.slice (some ad274) l0_1.length c0_1)) ∧ (Kd.R k39 39 w' w.heap.size (fun k_ => k_ ≠ gb275) s_.2.1 t279) ∧ (w'.heap[gb272]? = some (.cells #[.int .i64 a0_0, .slice (some ad274) l0_1.length c0_1] 30 (0, 0))) ∧ (w'.heap[gb275]? = some (.cells #[.int .i64 ((rd_T39 l0_1 x15_1).f0), .int .i64 ((rd_T39 l0_1 x15_1).f1)] 39 (0, 0))) ∧ (w'.heap[s_.2.2]? = some (.cells #[.int .i64 0, .slice none 0 0] 30 (0, 0))) ∧ (w.heap.size ≤ s_.2.2) ∧ (w.heap.size ≤ s_.2.2) ∧ (gb272 ≠ s_.2.2) ∧ (s_.2.2 ≠ gb272) ∧ (gb275 ≠ s_.2.2) ∧ (s_.2.2 ≠ gb275) ∧ (Below w.heap.size w w')) ?_ ?_
           rotate_left
           ·intro hCont
            refine two_ (i := 4) (j := 10) (Ni := some 24) (Nj := some 7) #[tT,tT,tT,tT,tT,tT,tT,tT,fF,fF,fF,fF] #[tT,tT,tT,tT,fF,tT,tT,tT,fF,fF,tT,fF] rfl rfl rfl rfl (two_of HT_.out (by kernel_rfl)) (by decide) (by decide) (fun K hK => ?_) (fun K hK => ?_)
            ·skip
             refine goes_ Tryd.func16 (by kernel_rfl) rfl #[.slice (some ad274) l0_1.length c0_1] (by rfl) rfl rfl mT_ ?_
             with_reducible refine (impl_Pair_16.calls _ _ l0_1 t276 _ ?side1 ?side2 A11.out).mono ?_
             (case side1 => repeat (first | exact (Kd.C_below HR0_1.out HB.out) | (with_reducible refine Kd.C_alloc ?_ _) | (with_reducible refine Kd.C_drewN ?_ _) | (with_reducible refine Kd.C_drew ?_)))
             (case side2 => exact HC0_1.out)
             rintro e w24 ⟨v277, rfl, ho0, hb⟩
             refine ⟨_, rfl, ?_⟩
             have n0_ := Aside0.mk (Kd.R_lower (Kd.R_newB ho0 (g := gb275) (o := .cells #[.int .i64 ((rd_T39 l0_1 x15_1).f0), .int .i64 ((rd_T39 l0_1 x15_1).f1)] 39 (0, 0)) (uB_ BK275.out)) (qap (hB2_ GE272.out GE275.out)))
             have n1_ := Aside0.mk (qaq (g := gb272) (o := .cells #[.int .i64 a0_0, .slice (some ad274) l0_1.length c0_1] 30 (0, 0)) (uB_ BK272.out) hb)
             have n2_ := Aside0.mk (qaq (g := gb275) (o := .cells #[.int .i64 ((rd_T39 l0_1 x15_1).f0), .int .i64 ((rd_T39 l0_1 x15_1).f1)] 39 (0, 0)) (uB_ BK275.out) hb)
             have n3_ := Aside0.mk (qao (hB2_ GE272.out GE275.out) hb)
             clear BK272
             clear BK275
             clear HB
             have HO278 := n0_
             have BK272 := n1_
             have BK275 := n2_
             have HB := n3_
             clear n0_ n1_ n2_ n3_
             (try clear hb)
             (try clear hb2)
             (try clear hk)
             (try clear hi)
             (try clear ho0)
             obtain ⟨Ao25, co25, eo25⟩ := Kd.R_slice HO278.out
             (first | subst eo25 | (injection eo25 with f1_ f2_ f3_; have f4_ := f1_.symm; have f5_ := f3_.symm; clear f1_ f2_ f3_; subst f4_; subst f5_))
             refine hK.out _ _ ⟨(qaa BK272.out 0).trans rfl, (qaa BK272.out 1).trans rfl⟩ (fun hHeld => ?_)
             clear hK K
             refine norm_ (a' := ?_) ?_ ?_
             rotate_left
             ·show Act.put _ (some 24) _ = _
              simp only [Act.put, sP_, qai, qaj]
              rfl
             refine two_ (i := 8) (j := 10) (Ni := some 28) (Nj := some 7) #[tT,tT,tT,tT,tT,tT,tT,tT,tT,fF,fF,fF] #[tT,tT,tT,tT,tT,tT,tT,tT,fF,fF,tT,fF] rfl rfl rfl rfl (two_of HT_.out (by kernel_rfl)) (by decide) (by decide) (fun K hK => ?_) (fun K hK => ?_)
             ·skip
              refine goes_ Tryd.func15 (by kernel_rfl) rfl #[.slice Ao25 t276.length co25, .int .i64 x15_1, .int .i64 (wrap64 (x15_1 + 1))] (by rfl) rfl rfl mT_ ?_
              with_reducible refine (impl_Pair_15.calls (fun k_ => some k_ = (.slice Ao25 t276.length co25 : Value).ownBlock) (.slice Ao25 t276.length co25) t276 x15_1 (wrap64 (x15_1 + 1)) t279 w _ ?side1 ?side2 A12.out).mono ?_
              (case side1 => repeat (first | (with_reducible first | exact HB.out | apply qal | apply qac | apply qaf | refine qag ?_ GE272.out | refine qag ?_ GE275.out) | exact HB.out))
              (case side2 => exact Kd.R_tight rfl HO278.out)
              rintro e w26 ⟨v280, rfl, ho0, hb, hkp⟩
              refine ⟨_, rfl, ?_⟩
              have n0_ := Aside0.mk (blk_kept (uB_ BK272.out) hkp (fun hs_ => (fun e_ => (Kd.R_ne HO278.out BK272.out (by decide)) e_) hs_))
              have n1_ := Aside0.mk (blk_kept (uB_ BK275.out) hkp (fun hs_ => (fun e_ => (Kd.R_away HO278.out (fun _ hk => hk.2)) e_) hs_))
              have n2_ := Aside0.mk (Kd.R_mono (ok' := fun k_ => k_ ≠ gb275) ho0 (fun k_ hk_ => Or.elim hk_ (fun hs_ => fun e_ => (Kd.R_away HO278.out (fun _ hk => hk.2)) (by rw [← e_]; exact hs_)) (fun hn_ => (Kd.freshB (g := gb275) (o := .cells #[.int .i64 ((rd_T39 l0_1 x15_1).f0), .int .i64 ((rd_T39 l0_1 x15_1).f1)] 39 (0, 0)) (uB_ BK275.out) k_ hn_))))
              have n3_ := Aside0.mk (hb)
              clear BK272
              clear BK275
              clear HB
              clear HO278
              have BK272 := n0_
              have BK275 := n1_
              have HO281 := n2_
              have HB := n3_
              clear n0_ n1_ n2_ n3_
              (try clear hb)
              (try clear hkp)
              (try clear ho0)
              obtain ⟨Ao27, co27, eo27⟩ := Kd.R_slice HO281.out
              (first | subst eo27 | (injection eo27 with f1_ f2_ f3_; have f4_ := f1_.symm; have f5_ := f3_.symm; clear f1_ f2_ f3_; subst f4_; subst f5_))
              refine hK.out _ _ ⟨(qaa BK272.out 0).trans rfl, (qaa BK272.out 1).trans rfl⟩ (fun hHeld => ?_)
              clear hK K
              refine norm_ (a' := ?_) ?_ ?_
              rotate_left
              ·show Act.put _ (some 28) _ = _
               simp only [Act.put, sP_, qai, qaj]
               rfl
              refine qan (i := 9) (N := some 29) (v := ?_) (a' := ?_) #[tT,tT,tT,tT,tT,tT,tT,tT,tT,tT,fF,fF] rfl rfl (aO_ HT_.out) (fun _ _ _ h => h) (.inl ⟨by rfl, ?_⟩) ?_ ?_
              rotate_left
              ·intro w'
               go_simp
               with_reducible rfl
              rotate_left
              ·simp only [Act.put, sP_, qai, qaj]
               rfl
              refine one_ (i := 10) (N := some 7) #[tT,tT,tT,tT,tT,tT,tT,tT,tT,tT,tT,fF] rfl rfl (one_of HT_.out (by kernel_rfl)) (by decide) (fun K hK => ?_)
              refine box_step ?hg (N := 7) ?hd (cs := #[.int .i64 0, .slice none 0 0]) (t := 30) ?hr ?_; (case hd => rfl); (case hg => rfl); (case hr => first | (go_simp; done) | (go_simp; rfl))
              intro gb282 hg w28 hbox hb
              have n0_ := Aside0.mk (Kd.R_below (uR_ HO281.out) hb)
              have n1_ := Aside0.mk (qaq (g := gb272) (o := .cells #[.int .i64 a0_0, .slice (some ad274) l0_1.length c0_1] 30 (0, 0)) (uB_ BK272.out) hb)
              have n2_ := Aside0.mk (qaq (g := gb275) (o := .cells #[.int .i64 ((rd_T39 l0_1 x15_1).f0), .int .i64 ((rd_T39 l0_1 x15_1).f1)] 39 (0, 0)) (uB_ BK275.out) hb)
              have n3_ := Aside0.mk (qao (hB2_ GE272.out GE275.out) hb)
              have n4_ := Aside0.mk (hbox)
              have n5_ := Aside0.mk ((by rw [hg]; exact (qap (hB2_ GE272.out GE275.out)) : w.heap.size ≤ gb282))
              have n6_ := Aside0.mk ((by rw [hg]; exact (qap (hB2_ GE272.out GE275.out)) : w.heap.size ≤ gb282))
              have n7_ := Aside0.mk ((by rw [hg]; exact Nat.ne_of_lt (blk_lt (g := gb272) (o := .cells #[.int .i64 a0_0, .slice (some ad274) l0_1.length c0_1] 30 (0, 0)) (uB_ BK272.out)) : gb272 ≠ gb282))
              have n8_ := Aside0.mk ((by rw [hg]; exact Nat.ne_of_gt (blk_lt (g := gb272) (o := .cells #[.int .i64 a0_0, .slice (some ad274) l0_1.length c0_1] 30 (0, 0)) (uB_ BK272.out)) : gb282 ≠ gb272))
              have n9_ := Aside0.mk ((by rw [hg]; exact Nat.ne_of_lt (blk_lt (g := gb275) (o := .cells #[.int .i64 ((rd_T39 l0_1 x15_1).f0), .int .i64 ((rd_T39 l0_1 x15_1).f1)] 39 (0, 0)) (uB_ BK275.out)) : gb275 ≠ gb282))
              have n10_ := Aside0.mk ((by rw [hg]; exact Nat.ne_of_gt (blk_lt (g := gb275) (o := .cells #[.int .i64 ((rd_T39 l0_1 x15_1).f0), .int .i64 ((rd_T39 l0_1 x15_1).f1)] 39 (0, 0)) (uB_ BK275.out)) : gb282 ≠ gb275))
              clear HO281
              clear BK272
              clear BK275
              clear HB
              have HO281 := n0_
              have BK272 := n1_
              have BK275 := n2_
              have HB := n3_
              have BK282 := n4_
              have GW282 := n5_
              have GE282 := n6_
              have NB272_282 := n7_
              have NB282_272 := n8_
              have NB275_282 := n9_
              have NB282_275 := n10_
              clear n0_ n1_ n2_ n3_ n4_ n5_ n6_ n7_ n8_ n9_ n10_
              clear hb hbox hg
              refine hK.out _ _ ⟨(qaa BK272.out 0).trans rfl, (qaa BK272.out 1).trans rfl⟩ (fun hHeld => ?_)
              clear hK K
              refine norm_ (a' := ?_) ?_ ?_
              rotate_left
              ·show Act.put _ (some 7) _ = _
               simp only [Act.put, sP_, qai, qaj]
               rfl
              exact norm_ (by simp only [putAll, Act.put, sP_]) (hCont (.slice Ao25 t276.length co25, .slice Ao27 t279.length co27, gb282) _ ⟨hHeld, (uR_ HO281.out), (uB_ BK272.out), (uB_ BK275.out), (uB_ BK282.out), GW282.out, GE282.out, NB272_282.out, NB282_272.out, NB275_282.out, NB282_275.out, (hB3_ GE272.out GE275.out GE282.out)⟩)
             ·skip
              refine box_step ?hg (N := 7) ?hd (cs := #[.int .i64 0, .slice none 0 0]) (t := 30) ?hr ?_; (case hd => rfl); (case hg => rfl); (case hr => first | (go_simp; done) | (go_simp; rfl))
              intro gb282 hg w25 hbox hb
              have n0_ := Aside0.mk (Kd.R_below (uR_ HO278.out) hb)
              have n1_ := Aside0.mk (qaq (g := gb272) (o := .cells #[.int .i64 a0_0, .slice (some ad274) l0_1.length c0_1] 30 (0, 0)) (uB_ BK272.out) hb)
              have n2_ := Aside0.mk (qaq (g := gb275) (o := .cells #[.int .i64 ((rd_T39 l0_1 x15_1).f0), .int .i64 ((rd_T39 l0_1 x15_1).f1)] 39 (0, 0)) (uB_ BK275.out) hb)
              have n3_ := Aside0.mk (qao (hB2_ GE272.out GE275.out) hb)
              have n4_ := Aside0.mk (hbox)
              have n5_ := Aside0.mk ((by rw [hg]; exact (qap (hB2_ GE272.out GE275.out)) : w.heap.size ≤ gb282))
              have n6_ := Aside0.mk ((by rw [hg]; exact (qap (hB2_ GE272.out GE275.out)) : w.heap.size ≤ gb282))
              have n7_ := Aside0.mk ((by rw [hg]; exact Nat.ne_of_lt (blk_lt (g := gb272) (o := .cells #[.int .i64 a0_0, .slice (some ad274) l0_1.length c0_1] 30 (0, 0)) (uB_ BK272.out)) : gb272 ≠ gb282))
              have n8_ := Aside0.mk ((by rw [hg]; exact Nat.ne_of_gt (blk_lt (g := gb272) (o := .cells #[.int .i64 a0_0, .slice (some ad274) l0_1.length c0_1] 30 (0, 0)) (uB_ BK272.out)) : gb282 ≠ gb272))
              have n9_ := Aside0.mk ((by rw [hg]; exact Nat.ne_of_lt (blk_lt (g := gb275) (o := .cells #[.int .i64 ((rd_T39 l0_1 x15_1).f0), .int .i64 ((rd_T39 l0_1 x15_1).f1)] 39 (0, 0)) (uB_ BK275.out)) : gb275 ≠ gb282))
              have n10_ := Aside0.mk ((by rw [hg]; exact Nat.ne_of_gt (blk_lt (g := gb275) (o := .cells #[.int .i64 ((rd_T39 l0_1 x15_1).f0), .int .i64 ((rd_T39 l0_1 x15_1).f1)] 39 (0, 0)) (uB_ BK275.out)) : gb282 ≠ gb275))
              clear HO278
              clear BK272
              clear BK275
              clear HB
              have HO278 := n0_
              have BK272 := n1_
              have BK275 := n2_
              have HB := n3_
              have BK282 := n4_
              have GW282 := n5_
              have GE282 := n6_
              have NB272_282 := n7_
              have NB282_272 := n8_
              have NB275_282 := n9_
              have NB282_275 := n10_
              clear n0_ n1_ n2_ n3_ n4_ n5_ n6_ n7_ n8_ n9_ n10_
              clear hb hbox hg
              obtain ⟨Ao26, co26, eo26⟩ := Kd.R_slice HO278.out
              (first | subst eo26 | (injection eo26 with f1_ f2_ f3_; have f4_ := f1_.symm; have f5_ := f3_.symm; clear f1_ f2_ f3_; subst f4_; subst f5_))
              refine hK.out _ _ ⟨(qaa BK272.out 0).trans rfl, (qaa BK272.out 1).trans rfl⟩ (fun hHeld => ?_)
              clear hK K
              refine norm_ (a' := ?_) ?_ ?_
              rotate_left
              ·show Act.put _ (some 7) _ = _
               simp only [Act.put, sP_, qai, qaj]
               rfl
              refine one_ (i := 8) (N := some 28) #[tT,tT,tT,tT,tT,tT,tT,tT,tT,fF,tT,fF] rfl rfl (one_of HT_.out (by kernel_rfl)) (by decide) (fun K hK => ?_)
              refine goes_ Tryd.func15 (by kernel_rfl) rfl #[.slice Ao26 t276.length co26, .int .i64 x15_1, .int .i64 (wrap64 (x15_1 + 1))] (by rfl) rfl rfl mT_ ?_
              with_reducible refine (impl_Pair_15.calls (fun k_ => some k_ = (.slice Ao26 t276.length co26 : Value).ownBlock) (.slice Ao26 t276.length co26) t276 x15_1 (wrap64 (x15_1 + 1)) t279 w _ ?side1 ?side2 A12.out).mono ?_
              (case side1 => repeat (first | (with_reducible first | exact HB.out | apply qal | apply qac | apply qaf | refine qag ?_ GE272.out | refine qag ?_ GE275.out | refine qag ?_ GE282.out) | exact HB.out))
              (case side2 => exact Kd.R_tight rfl HO278.out)
              rintro e w27 ⟨v280, rfl, ho0, hb, hkp⟩
              refine ⟨_, rfl, ?_⟩
              have n0_ := Aside0.mk (blk_kept (uB_ BK272.out) hkp (fun hs_ => (fun e_ => (Kd.R_ne HO278.out BK272.out (by decide)) e_) hs_))
              have n1_ := Aside0.mk (blk_kept (uB_ BK275.out) hkp (fun hs_ => (fun e_ => (Kd.R_away HO278.out (fun _ hk => hk.2)) e_) hs_))
              have n2_ := Aside0.mk (blk_kept (uB_ BK282.out) hkp (fun hs_ => (fun e_ => (Kd.R_ne HO278.out BK282.out (by decide)) e_) hs_))
              have n3_ := Aside0.mk (Kd.R_mono (ok' := fun k_ => k_ ≠ gb275) ho0 (fun k_ hk_ => Or.elim hk_ (fun hs_ => fun e_ => (Kd.R_away HO278.out (fun _ hk => hk.2)) (by rw [← e_]; exact hs_)) (fun hn_ => (Kd.freshB (g := gb275) (o := .cells #[.int .i64 ((rd_T39 l0_1 x15_1).f0), .int .i64 ((rd_T39 l0_1 x15_1).f1)] 39 (0, 0)) (uB_ BK275.out) k_ hn_))))
              have n4_ := Aside0.mk (hb)
              clear BK272
              clear BK275
              clear BK282
              clear HB
              clear HO278
              have BK272 := n0_
              have BK275 := n1_
              have BK282 := n2_
              have HO281 := n3_
              have HB := n4_
              clear n0_ n1_ n2_ n3_ n4_
              (try clear hb)
              (try clear hkp)
              (try clear ho0)
              obtain ⟨Ao28, co28, eo28⟩ := Kd.R_slice HO281.out
              (first | subst eo28 | (injection eo28 with f1_ f2_ f3_; have f4_ := f1_.symm; have f5_ := f3_.symm; clear f1_ f2_ f3_; subst f4_; subst f5_))
              refine hK.out _ _ ⟨(qaa BK272.out 0).trans rfl, (qaa BK272.out 1).trans rfl⟩ (fun hHeld => ?_)
              clear hK K
              refine norm_ (a' := ?_) ?_ ?_
              rotate_left
              ·show Act.put _ (some 28) _ = _
               simp only [Act.put, sP_, qai, qaj]
               rfl
              refine qan (i := 9) (N := some 29) (v := ?_) (a' := ?_) #[tT,tT,tT,tT,tT,tT,tT,tT,tT,tT,tT,fF] rfl rfl (aO_ HT_.out) (fun _ _ _ h => h) (.inl ⟨by rfl, ?_⟩) ?_ ?_
              rotate_left
              ·intro w'
               go_simp
               with_reducible rfl
              rotate_left
              ·simp only [Act.put, sP_, qai, qaj]
               rfl
              exact norm_ (by simp only [putAll, Act.put, sP_]) (hCont (.slice Ao26 t276.length co26, .slice Ao28 t279.length co28, gb282) _ ⟨hHeld, (uR_ HO281.out), (uB_ BK272.out), (uB_ BK275.out), (uB_ BK282.out), GW282.out, GE282.out, NB272_282.out, NB282_272.out, NB275_282.out, NB282_275.out, (hB3_ GE272.out GE275.out GE282.out)⟩)
            ·skip
             refine box_step ?hg (N := 7) ?hd (cs := #[.int .i64 0, .slice none 0 0]) (t := 30) ?hr ?_; (case hd => rfl); (case hg => rfl); (case hr => first | (go_simp; done) | (go_simp; rfl))
             intro gb282 hg w24 hbox hb
             have n0_ := Aside0.mk (qaq (g := gb272) (o := .cells #[.int .i64 a0_0, .slice (some ad274) l0_1.length c0_1] 30 (0, 0)) (uB_ BK272.out) hb)
             have n1_ := Aside0.mk (qaq (g := gb275) (o := .cells #[.int .i64 ((rd_T39 l0_1 x15_1).f0), .int .i64 ((rd_T39 l0_1 x15_1).f1)] 39 (0, 0)) (uB_ BK275.out) hb)
             have n2_ := Aside0.mk (qao (hB2_ GE272.out GE275.out) hb)
             have n3_ := Aside0.mk (hbox)
             have n4_ := Aside0.mk ((by rw [hg]; exact (qap (hB2_ GE272.out GE275.out)) : w.heap.size ≤ gb282))
             have n5_ := Aside0.mk ((by rw [hg]; exact (qap (hB2_ GE272.out GE275.out)) : w.heap.size ≤ gb282))
             have n6_ := Aside0.mk ((by rw [hg]; exact Nat.ne_of_lt (blk_lt (g := gb272) (o := .cells #[.int .i64 a0_0, .slice (some ad274) l0_1.length c0_1] 30 (0, 0)) (uB_ BK272.out)) : gb272 ≠ gb282))
             have n7_ := Aside0.mk ((by rw [hg]; exact Nat.ne_of_gt (blk_lt (g := gb272) (o := .cells #[.int .i64 a0_0, .slice (some ad274) l0_1.length c0_1] 30 (0, 0)) (uB_ BK272.out)) : gb282 ≠ gb272))
             have n8_ := Aside0.mk ((by rw [hg]; exact Nat.ne_of_lt (blk_lt (g := gb275) (o := .cells #[.int .i64 ((rd_T39 l0_1 x15_1).f0), .int .i64 ((rd_T39 l0_1 x15_1).f1)] 39 (0, 0)) (uB_ BK275.out)) : gb275 ≠ gb282))
             have n9_ := Aside0.mk ((by rw [hg]; exact Nat.ne_of_gt (blk_lt (g := gb275) (o := .cells #[.int .i64 ((rd_T39 l0_1 x15_1).f0), .int .i64 ((rd_T39 l0_1 x15_1).f1)] 39 (0, 0)) (uB_ BK275.out)) : gb282 ≠ gb275))
             clear BK272
             clear BK275
             clear HB
             have BK272 := n0_
             have BK275 := n1_
             have HB := n2_
             have BK282 := n3_
             have GW282 := n4_
             have GE282 := n5_
             have NB272_282 := n6_
             have NB282_272 := n7_
             have NB275_282 := n8_
             have NB282_275 := n9_
             clear n0_ n1_ n2_ n3_ n4_ n5_ n6_ n7_ n8_ n9_
             clear hb hbox hg
             refine hK.out _ _ ⟨(qaa BK272.out 0).trans rfl, (qaa BK272.out 1).trans rfl⟩ (fun hHeld => ?_)
             clear hK K
             refine norm_ (a' := ?_) ?_ ?_
             rotate_left
             ·show Act.put _ (some 7) _ = _
              simp only [Act.put, sP_, qai, qaj]
              rfl
             refine one_ (i := 4) (N := some 24) #[tT,tT,tT,tT,tT,tT,tT,tT,fF,fF,tT,fF] rfl rfl (one_of HT_.out (by kernel_rfl)) (by decide) (fun K hK => ?_)
             refine goes_ Tryd.func16 (by kernel_rfl) rfl #[.slice (some ad274) l0_1.length c0_1] (by rfl) rfl rfl mT_ ?_
             with_reducible refine (impl_Pair_16.calls _ _ l0_1 t276 _ ?side1 ?side2 A11.out).mono ?_
             (case side1 => repeat (first | exact (Kd.C_below HR0_1.out HB.out) | (with_reducible refine Kd.C_alloc ?_ _) | (with_reducible refine Kd.C_drewN ?_ _) | (with_reducible refine Kd.C_drew ?_)))
             (case side2 => exact HC0_1.out)
             rintro e w25 ⟨v277, rfl, ho0, hb⟩
             refine ⟨_, rfl, ?_⟩
             have n0_ := Aside0.mk (Kd.R_lower (Kd.R_newB ho0 (g := gb275) (o := .cells #[.int .i64 ((rd_T39 l0_1 x15_1).f0), .int .i64 ((rd_T39 l0_1 x15_1).f1)] 39 (0, 0)) (uB_ BK275.out)) (qap (hB3_ GE272.out GE275.out GE282.out)))
             have n1_ := Aside0.mk (qaq (g := gb272) (o := .cells #[.int .i64 a0_0, .slice (some ad274) l0_1.length c0_1] 30 (0, 0)) (uB_ BK272.out) hb)
             have n2_ := Aside0.mk (qaq (g := gb275) (o := .cells #[.int .i64 ((rd_T39 l0_1 x15_1).f0), .int .i64 ((rd_T39 l0_1 x15_1).f1)] 39 (0, 0)) (uB_ BK275.out) hb)
             have n3_ := Aside0.mk (qaq (g := gb282) (o := .cells #[.int .i64 0, .slice none 0 0] 30 (0, 0)) (uB_ BK282.out) hb)
             have n4_ := Aside0.mk (qao (hB3_ GE272.out GE275.out GE282.out) hb)
             clear BK272
             clear BK275
             clear BK282
             clear HB
             have HO278 := n0_
             have BK272 := n1_
             have BK275 := n2_
             have BK282 := n3_
             have HB := n4_
             clear n0_ n1_ n2_ n3_ n4_
             (try clear hb)
             (try clear hb2)
             (try clear hk)
             (try clear hi)
             (try clear ho0)
             obtain ⟨Ao26, co26, eo26⟩ := Kd.R_slice HO278.out
             (first | subst eo26 | (injection eo26 with f1_ f2_ f3_; have f4_ := f1_.symm; have f5_ := f3_.symm; clear f1_ f2_ f3_; subst f4_; subst f5_))
             refine hK.out _ _ ⟨(qaa BK272.out 0).trans rfl, (qaa BK272.out 1).trans rfl⟩ (fun hHeld => ?_)
             clear hK K
             refine norm_ (a' := ?_) ?_ ?_
             rotate_left
             ·show Act.put _ (some 24) _ = _
              simp only [Act.put, sP_, qai, qaj]
              rfl
             refine one_ (i := 8) (N := some 28) #[tT,tT,tT,tT,tT,tT,tT,tT,tT,fF,tT,fF] rfl rfl (one_of HT_.out (by kernel_rfl)) (by decide) (fun K hK => ?_)
             refine goes_ Tryd.func15 (by kernel_rfl) rfl #[.slice Ao26 t276.length co26, .int .i64 x15_1, .int .i64 (wrap64 (x15_1 + 1))] (by rfl) rfl rfl mT_ ?_
             with_reducible refine (impl_Pair_15.calls (fun k_ => some k_ = (.slice Ao26 t276.length co26 : Value).ownBlock) (.slice Ao26 t276.length co26) t276 x15_1 (wrap64 (x15_1 + 1)) t279 w _ ?side1 ?side2 A12.out).mono ?_
             (case side1 => repeat (first | (with_reducible first | exact HB.out | apply qal | apply qac | apply qaf | refine qag ?_ GE272.out | refine qag ?_ GE275.out | refine qag ?_ GE282.out) | exact HB.out))
             (case side2 => exact Kd.R_tight rfl HO278.out)
             rintro e w27 ⟨v280, rfl, ho0, hb, hkp⟩
             refine ⟨_, rfl, ?_⟩
             have n0_ := Aside0.mk (blk_kept (uB_ BK272.out) hkp (fun hs_ => (fun e_ => (Kd.R_ne HO278.out BK272.out (by decide)) e_) hs_))
             have n1_ := Aside0.mk (blk_kept (uB_ BK275.out) hkp (fun hs_ => (fun e_ => (Kd.R_away HO278.out (fun _ hk => hk.2)) e_) hs_))
             have n2_ := Aside0.mk (blk_kept (uB_ BK282.out) hkp (fun hs_ => (fun e_ => (Kd.R_ne HO278.out BK282.out (by decide)) e_) hs_))
             have n3_ := Aside0.mk (Kd.R_mono (ok' := fun k_ => k_ ≠ gb275) ho0 (fun k_ hk_ => Or.elim hk_ (fun hs_ => fun e_ => (Kd.R_away HO278.out (fun _ hk => hk.2)) (by rw [← e_]; exact hs_)) (fun hn_ => (Kd.freshB (g := gb275) (o := .cells #[.int .i64 ((rd_T39 l0_1 x15_1).f0), .int .i64 ((rd_T39 l0_1 x15_1).f1)] 39 (0, 0)) (uB_ BK275.out) k_ hn_))))
             have n4_ := Aside0.mk (hb)
             clear BK272
             clear BK275
             clear BK282
             clear HB
             clear HO278
             have BK272 := n0_
             have BK275 := n1_
             have BK282 := n2_
             have HO281 := n3_
             have HB := n4_
             clear n0_ n1_ n2_ n3_ n4_
             (try clear hb)
             (try clear hkp)
             (try clear ho0)
             obtain ⟨Ao28, co28, eo28⟩ := Kd.R_slice HO281.out
             (first | subst eo28 | (injection eo28 with f1_ f2_ f3_; have f4_ := f1_.symm; have f5_ := f3_.symm; clear f1_ f2_ f3_; subst f4_; subst f5_))
             refine hK.out _ _ ⟨(qaa BK272.out 0).trans rfl, (qaa BK272.out 1).trans rfl⟩ (fun hHeld => ?_)
             clear hK K
             refine norm_ (a' := ?_) ?_ ?_
             rotate_left
             ·show Act.put _ (some 28) _ = _
              simp only [Act.put, sP_, qai, qaj]
              rfl
             refine qan (i := 9) (N := some 29) (v := ?_) (a' := ?_) #[tT,tT,tT,tT,tT,tT,tT,tT,tT,tT,tT,fF] rfl rfl (aO_ HT_.out) (fun _ _ _ h => h) (.inl ⟨by rfl, ?_⟩) ?_ ?_
             rotate_left
             ·intro w'
              go_simp
              with_reducible rfl
             rotate_left
             ·simp only [Act.put, sP_, qai, qaj]
              rfl
             exact norm_ (by simp only [putAll, Act.put, sP_]) (hCont (.slice Ao26 t276.length co26, .slice Ao28 t279.length co28, gb282) _ ⟨hHeld, (uR_ HO281.out), (uB_ BK272.out), (uB_ BK275.out), (uB_ BK282.out), GW282.out, GE282.out, NB272_282.out, NB282_272.out, NB275_282.out, NB282_275.out, (hB3_ GE272.out GE275.out GE282.out)⟩)
           rintro ⟨v277, v280, gb282⟩ w29 ⟨hS_, h0_, h1_, h2_, h3_, h4_, h5_, h6_, h7_, h8_, h9_, h10_⟩
           have n0_ : Aside0 (Kd.R k39 39 w29 w.heap.size (fun k_ => k_ ≠ gb275) v280 t279) := ⟨h0_⟩
           have n1_ : Aside0 (w29.heap[gb272]? = some (.cells #[.int .i64 a0_0, .slice (some ad274) l0_1.length c0_1] 30 (0, 0))) := ⟨h1_⟩
           have n2_ : Aside0 (w29.heap[gb275]? = some (.cells #[.int .i64 ((rd_T39 l0_1 x15_1).f0), .int .i64 ((rd_T39 l0_1 x15_1).f1)] 39 (0, 0))) := ⟨h2_⟩
           have n3_ : Aside0 (w29.heap[gb282]? = some (.cells #[.int .i64 0, .slice none 0 0] 30 (0, 0))) := ⟨h3_⟩
           have n4_ : Aside0 (w.heap.size ≤ gb282) := ⟨h4_⟩
           have n5_ : Aside0 (w.heap.size ≤ gb282) := ⟨h5_⟩
           have n6_ : Aside0 (gb272 ≠ gb282) := ⟨h6_⟩
           have n7_ : Aside0 (gb282 ≠ gb272) := ⟨h7_⟩
           have n8_ : Aside0 (gb275 ≠ gb282) := ⟨h8_⟩
           have n9_ : Aside0 (gb282 ≠ gb275) := ⟨h9_⟩
           have n10_ : Aside0 (Below w.heap.size w w29) := ⟨h10_⟩
           clear BK272
           clear BK275
           clear HB
           clear h0_ h1_ h2_ h3_ h4_ h5_ h6_ h7_ h8_ h9_ h10_
           have HO281 := n0_
           have BK272 := n1_
           have BK275 := n2_
           have BK282 := n3_
           have GW282 := n4_
           have GE282 := n5_
           have NB272_282 := n6_
           have NB282_272 := n7_
           have NB275_282 := n8_
           have NB282_275 := n9_
           have HB := n10_
           clear n0_ n1_ n2_ n3_ n4_ n5_ n6_ n7_ n8_ n9_ n10_
           have hHeld : w29.cell? ⟨gb272, 0, none⟩ = some (.int .i64 a0_0) ∧ w29.cell? ⟨gb272, 1, none⟩ = some (.slice (some ad274) l0_1.length c0_1) := hS_
           obtain ⟨Ao30, co30, eo30⟩ := Kd.R_slice HO281.out
           (first | subst eo30 | (injection eo30 with f1_ f2_ f3_; have f4_ := f1_.symm; have f5_ := f3_.symm; clear f1_ f2_ f3_; subst f4_; subst f5_))
           refine norm_ (a' := ?_) ?_ ?_
           rotate_left
           ·simp only [putAll, Act.put, sP_]
            rfl
           refine one_ (i := 11) (N := none) #[tT,tT,tT,tT,tT,tT,tT,tT,tT,tT,tT,tT] rfl rfl (one_of HT_.out (by kernel_rfl)) (by decide) (fun K hK => ?_)
           have hs31 : w29.cell? ⟨gb282, 0, none⟩ = some (.int .i64 0) := (qaa BK282.out 0).trans rfl
           have hfs31 := qam BK282.out 0
           have hns31_0 := NB272_282.out
           have hns31_1 := NB275_282.out
           have hms31_0 := NB282_272.out
           have hms31_1 := NB282_275.out
           have hs32 : w29.cell? ⟨gb282, 1, none⟩ = some (.slice none 0 0) := (qaa BK282.out 1).trans rfl
           have hfs32 := qam BK282.out 1
           have hns32_0 := NB272_282.out
           have hns32_1 := NB275_282.out
           have hms32_0 := NB282_272.out
           have hms32_1 := NB282_275.out
           refine skip_ (w1 := ?_) (by rfl) rfl ?_ ?_
           rotate_left
           ·go_simp
            rfl
           refine hK.out _ _ ⟨((cell_far (p := ⟨gb282, _, none⟩) NB272_282.out _).trans (((cell_far (p := ⟨gb282, _, none⟩) NB272_282.out _).trans (hHeld.1)))), ((cell_far (p := ⟨gb282, _, none⟩) NB272_282.out _).trans (((cell_far (p := ⟨gb282, _, none⟩) NB272_282.out _).trans (hHeld.2))))⟩ (fun hHeld => ?_)
           clear hK K
           refine done_ (done_of HT_.out (by kernel_rfl)) ?_
           try go_wp2
           have n0_ : Aside0 (Kd.R k39 39 ((w29.setCell ⟨gb282, 0, none⟩ (.int .i64 a0_0)).setCell ⟨gb282, 1, none⟩ (.slice Ao30 t279.length co30)) w.heap.size (fun k_ => k_ ≠ gb275) (.slice Ao30 t279.length co30) t279) := ⟨by (with_reducible repeat (first | apply Kd.R_alloc | apply Kd.R_drewN | apply Kd.R_drew)); exact Kd.R_mono (Kd.R_far (p := ⟨gb282, 1, none⟩) (Kd.R_far (p := ⟨gb282, 0, none⟩) (Kd.R_types HO281.out BK282.out (by decide)) (fun _ hk => hk.2) (.int .i64 a0_0)) (fun _ hk => hk.2) (.slice Ao30 t279.length co30)) (fun _ hk => hk.1)⟩
           have n1_ : Aside0 (((w29.setCell ⟨gb282, 0, none⟩ (.int .i64 a0_0)).setCell ⟨gb282, 1, none⟩ (.slice Ao30 t279.length co30)).heap[gb272]? = some (.cells #[.int .i64 a0_0, .slice (some ad274) l0_1.length c0_1] 30 (0, 0))) := ⟨by (with_reducible repeat (first | refine qad ?_ _ | refine qab ?_ | refine qae ?_ _)); refine blk_far ?_ NB272_282.out _; (with_reducible repeat (first | refine qad ?_ _ | refine qab ?_ | refine qae ?_ _)); refine blk_far ?_ NB272_282.out _; (with_reducible repeat (first | refine qad ?_ _ | refine qab ?_ | refine qae ?_ _)); exact BK272.out⟩
           have n2_ : Aside0 (((w29.setCell ⟨gb282, 0, none⟩ (.int .i64 a0_0)).setCell ⟨gb282, 1, none⟩ (.slice Ao30 t279.length co30)).heap[gb275]? = some (.cells #[.int .i64 ((rd_T39 l0_1 x15_1).f0), .int .i64 ((rd_T39 l0_1 x15_1).f1)] 39 (0, 0))) := ⟨by (with_reducible repeat (first | refine qad ?_ _ | refine qab ?_ | refine qae ?_ _)); refine blk_far ?_ NB275_282.out _; (with_reducible repeat (first | refine qad ?_ _ | refine qab ?_ | refine qae ?_ _)); refine blk_far ?_ NB275_282.out _; (with_reducible repeat (first | refine qad ?_ _ | refine qab ?_ | refine qae ?_ _)); exact BK275.out⟩
           have n3_ : Aside0 (((w29.setCell ⟨gb282, 0, none⟩ (.int .i64 a0_0)).setCell ⟨gb282, 1, none⟩ (.slice Ao30 t279.length co30)).heap[gb282]? = some (.cells #[.int .i64 a0_0, .slice Ao30 t279.length co30] 30 (0, 0))) := ⟨by (with_reducible repeat (first | refine qad ?_ _ | refine qab ?_ | refine qae ?_ _)); refine blk_put (cs := #[.int .i64 a0_0, .slice none 0 0]) ?_ 1 _ rfl; (with_reducible repeat (first | refine qad ?_ _ | refine qab ?_ | refine qae ?_ _)); refine blk_put (cs := #[.int .i64 0, .slice none 0 0]) ?_ 0 _ rfl; (with_reducible repeat (first | refine qad ?_ _ | refine qab ?_ | refine qae ?_ _)); exact BK282.out⟩
           have n4_ : Aside0 (Below w.heap.size w ((w29.setCell ⟨gb282, 0, none⟩ (.int .i64 a0_0)).setCell ⟨gb282, 1, none⟩ (.slice Ao30 t279.length co30))) := ⟨by repeat (first | (with_reducible first | exact HB.out | apply qal | apply qac | apply qaf | refine qag ?_ GE272.out | refine qag ?_ GE275.out | refine qag ?_ GE282.out) | exact HB.out)⟩
           (try clear HO281)
           (try clear BK272)
           (try clear BK275)
           (try clear BK282)
           (try clear HB)
           generalize ((w29.setCell ⟨gb282, 0, none⟩ (.int .i64 a0_0)).setCell ⟨gb282, 1, none⟩ (.slice Ao30 t279.length co30)) = w33 at n0_ n1_ n2_ n3_ n4_ ⊢
           have HO281 := n0_
           have BK272 := n1_
           have BK275 := n2_
           have BK282 := n3_
           have HB := n4_
           clear n0_ n1_ n2_ n3_ n4_
           have n0_ := Aside0.mk (Kd.R_drew HO281.out)
           have n1_ := Aside0.mk (qab BK272.out)
           have n2_ := Aside0.mk (qab BK275.out)
           have n3_ := Aside0.mk (qab BK282.out)
           have n4_ := Aside0.mk (qaf HB.out)
           clear HO281
           clear BK272
           clear BK275
           clear BK282
           clear HB
           have HO281 := n0_
           have BK272 := n1_
           have BK275 := n2_
           have BK282 := n3_
           have HB := n4_
           clear n0_ n1_ n2_ n3_ n4_
           refine start_ (n := 10) (S := fun w' => w'.cell? ⟨gb282, 0, none⟩ = some (.int .i64 a0_0) ∧ w'.cell? ⟨gb282, 1, none⟩ = some (.slice Ao30 t279.length co30) ∧ w'.cell? ⟨gb275, 0, none⟩ = some (.int .i64 ((rd_T39 l0_1 x15_1).f0)) ∧ w'.cell? ⟨gb275, 1, none⟩ = some (.int .i64 ((rd_T39 l0_1 x15_1).f1))) (ds := []) #[fF,fF,fF,fF,fF,fF,fF,fF,fF,fF] (by kernel_rfl) rfl rfl ⟨(qaa BK282.out 0).trans rfl, (qaa BK282.out 1).trans rfl, (qaa BK275.out 0).trans rfl, (qaa BK275.out 1).trans rfl⟩ (fun hHeld => ?_); refine with_tabW impl_ShortestRound.tab8 impl_ShortestRound.bits8 (fun HT_ HW_ => ?_)
           generalize w33.drew = w34 at HO281 BK272 BK275 BK282 HB hHeld ⊢
           refine qan (i := 2) (N := some 32) (v := ?_) (a' := ?_) #[fF,fF,tT,fF,fF,fF,fF,fF,fF,fF] rfl rfl (aO_ HT_.out) (fun _ _ _ h => h) (.inl ⟨by rfl, ?_⟩) ?_ ?_
           rotate_left
           ·intro w'
            go_simp
            with_reducible rfl
           rotate_left
           ·simp only [Act.put, sP_, qai, qaj]
            rfl
           refine qan (i := 5) (N := some 35) (v := ?_) (a' := ?_) #[fF,fF,tT,fF,fF,tT,fF,fF,fF,fF] rfl rfl (aO_ HT_.out) (fun _ _ _ h => h) (.inl ⟨by rfl, ?_⟩) ?_ ?_
           rotate_left
           ·intro w'
            go_simp
            with_reducible rfl
           rotate_left
           ·simp only [Act.put, sP_, qai, qaj]
            rfl
           refine take_ (i := 0) (N := some 30) (v := ?_) (a' := ?_) #[tT,fF,tT,fF,fF,tT,fF,fF,fF,fF] rfl rfl (qar HT_.out HW_.out (by kernel_rfl)) (fun _ _ _ h => h) (Or.inl ⟨by rfl, ?_⟩) hHeld ?_ ?_
           rotate_left
           ·rintro w' ⟨s0, s1, s2, s3⟩
            go_simp
            with_reducible rfl
           rotate_left
           ·simp only [Act.put, sP_, qai, qaj]
            rfl
           refine take_ (i := 3) (N := some 33) (v := ?_) (a' := ?_) #[tT,fF,tT,tT,fF,tT,fF,fF,fF,fF] rfl rfl (qar HT_.out HW_.out (by kernel_rfl)) (fun _ _ _ h => h) (Or.inl ⟨by rfl, ?_⟩) hHeld ?_ ?_
           rotate_left
           ·rintro w' ⟨s0, s1, s2, s3⟩
            go_simp
            with_reducible rfl
           rotate_left
           ·simp only [Act.put, sP_, qai, qaj]
            rfl
           refine take_ (i := 6) (N := some 36) (v := ?_) (a' := ?_) #[tT,fF,tT,tT,fF,tT,tT,fF,fF,fF] rfl rfl (qar HT_.out HW_.out (by kernel_rfl)) (fun _ _ _ h => h) (Or.inl ⟨by rfl, ?_⟩) hHeld ?_ ?_
           rotate_left
           ·rintro w' ⟨s0, s1, s2, s3⟩
            go_simp
            with_reducible rfl
           rotate_left
           ·simp only [Act.put, sP_, qai, qaj]
            rfl
           refine one_ (i := 1) (N := some 31) #[tT,tT,tT,tT,fF,tT,tT,fF,fF,fF] rfl rfl (one_of HT_.out (by kernel_rfl)) (by decide) (fun K hK => ?_)
           refine goes_ Tryd.func17 (by kernel_rfl) rfl #[.agg #[.int .i64 a0_0, .slice Ao30 t279.length co30]] (by rfl) rfl rfl mT_ ?_
           with_reducible refine (impl_Party_table.calls k1 a0_0 _ _ t279 t283 _ ?side1 ?side2 A13.out).mono ?_
           (case side1 => repeat (first | exact (Kd.R_reads' HO281.out).2.2 | (with_reducible refine Kd.C_alloc ?_ _) | (with_reducible refine Kd.C_drewN ?_ _) | (with_reducible refine Kd.C_drew ?_)))
           (case side2 => exact (Kd.R_reads' HO281.out).2.1)
           rintro e w35 ⟨v284, rfl, ho0, hb⟩
           refine ⟨_, rfl, ?_⟩
           have n0_ := Aside0.mk (Kd.R_below (uR_ HO281.out) hb)
           have n1_ := Aside0.mk (Kd.R_lower ho0 (qap (hB3_ GE272.out GE275.out GE282.out)))
           have n2_ := Aside0.mk (qaq (g := gb272) (o := .cells #[.int .i64 a0_0, .slice (some ad274) l0_1.length c0_1] 30 (0, 0)) (uB_ BK272.out) hb)
           have n3_ := Aside0.mk (qaq (g := gb275) (o := .cells #[.int .i64 ((rd_T39 l0_1 x15_1).f0), .int .i64 ((rd_T39 l0_1 x15_1).f1)] 39 (0, 0)) (uB_ BK275.out) hb)
           have n4_ := Aside0.mk (qaq (g := gb282) (o := .cells #[.int .i64 a0_0, .slice Ao30 t279.length co30] 30 (0, 0)) (uB_ BK282.out) hb)
           have n5_ := Aside0.mk (qao (hB3_ GE272.out GE275.out GE282.out) hb)
           clear HO281
           clear BK272
           clear BK275
           clear BK282
           clear HB
           have HO281 := n0_
           have HO285 := n1_
           have BK272 := n2_
           have BK275 := n3_
           have BK282 := n4_
           have HB := n5_
           clear n0_ n1_ n2_ n3_ n4_ n5_
           (try clear hb)
           (try clear hb2)
           (try clear hk)
           (try clear hi)
           (try clear ho0)
           obtain ⟨Ao36, co36, eo36⟩ := Kd.R_slice HO285.out
           (first | subst eo36 | (injection eo36 with f1_ f2_ f3_; have f4_ := f1_.symm; have f5_ := f3_.symm; clear f1_ f2_ f3_; subst f4_; subst f5_))
           refine hK.out _ _ ⟨(qaa BK282.out 0).trans rfl, (qaa BK282.out 1).trans rfl, (qaa BK275.out 0).trans rfl, (qaa BK275.out 1).trans rfl⟩ (fun hHeld => ?_)
           clear hK K
           refine norm_ (a' := ?_) ?_ ?_
           rotate_left
           ·show Act.put _ (some 31) _ = _
            simp only [Act.put, sP_, qai, qaj]
            rfl
           refine one_ (i := 4) (N := some 34) #[tT,tT,tT,tT,tT,tT,tT,fF,fF,fF] rfl rfl (one_of HT_.out (by kernel_rfl)) (by decide) (fun K hK => ?_)
           refine goes_ Tryd.func18 (by kernel_rfl) rfl #[.slice Ao36 t283.length co36, .int .i64 ((rd_T39 l0_1 x15_1).f0)] (by rfl) rfl rfl mT_ ?_
           with_reducible refine (impl_table_distances.calls k1 _ _ t283 ((rd_T39 l0_1 x15_1).f0) t286 _ ?sideG ?side1 ?side2 A14.out).mono ?_; (case sideG => first | exact HG.out | exact Tab.below HG.out hB_)
           (case side1 => repeat (first | exact (Kd.R_reads' HO285.out).2.2 | (with_reducible refine Kd.C_alloc ?_ _) | (with_reducible refine Kd.C_drewN ?_ _) | (with_reducible refine Kd.C_drew ?_)))
           (case side2 => exact (Kd.R_reads' HO285.out).2.1)
           rintro e w37 ⟨v287, rfl, ho0, hb⟩
           refine ⟨_, rfl, ?_⟩
           have n0_ := Aside0.mk (Kd.R_below (uR_ HO281.out) hb)
           have n1_ := Aside0.mk (Kd.R_below (uR_ HO285.out) hb)
           have n2_ := Aside0.mk (Kd.R_lower ho0 (qap (hB3_ GE272.out GE275.out GE282.out)))
           have n3_ := Aside0.mk (qaq (g := gb272) (o := .cells #[.int .i64 a0_0, .slice (some ad274) l0_1.length c0_1] 30 (0, 0)) (uB_ BK272.out) hb)
           have n4_ := Aside0.mk (qaq (g := gb275) (o := .cells #[.int .i64 ((rd_T39 l0_1 x15_1).f0), .int .i64 ((rd_T39 l0_1 x15_1).f1)] 39 (0, 0)) (uB_ BK275.out) hb)
           have n5_ := Aside0.mk (qaq (g := gb282) (o := .cells #[.int .i64 a0_0, .slice Ao30 t279.length co30] 30 (0, 0)) (uB_ BK282.out) hb)
           have n6_ := Aside0.mk (qao (hB3_ GE272.out GE275.out GE282.out) hb)
           clear HO281
           clear HO285
           clear BK272
           clear BK275
           clear BK282
           clear HB
           have HO281 := n0_
           have HO285 := n1_
           have HO288 := n2_
           have BK272 := n3_
           have BK275 := n4_
           have BK282 := n5_
           have HB := n6_
           clear n0_ n1_ n2_ n3_ n4_ n5_ n6_
           (try clear hb)
           (try clear hb2)
           (try clear hk)
           (try clear hi)
           (try clear ho0)
           obtain ⟨Ao38, co38, eo38⟩ := Kd.R_slice HO288.out
           (first | subst eo38 | (injection eo38 with f1_ f2_ f3_; have f4_ := f1_.symm; have f5_ := f3_.symm; clear f1_ f2_ f3_; subst f4_; subst f5_))
           have p289 : 0 ≤ (((rd_T39 l0_1 x15_1).f1) : Int) := oD_
           have q289 : ((rd_T39 l0_1 x15_1).f1) < (t286.length : Int) := oD_
           obtain ⟨ad289, e289, hx289_0⟩ := Kd.at_int (Kd.R_reads' HO288.out).2.2 ((rd_T39 l0_1 x15_1).f1) p289 q289
           cases e289
           replace p289 := eq_true p289
           replace q289 := eq_true q289
           refine hK.out _ _ ⟨(qaa BK282.out 0).trans rfl, (qaa BK282.out 1).trans rfl, (qaa BK275.out 0).trans rfl, (qaa BK275.out 1).trans rfl⟩ (fun hHeld => ?_)
           clear hK K
           refine norm_ (a' := ?_) ?_ ?_
           rotate_left
           ·show Act.put _ (some 34) _ = _
            simp only [Act.put, sP_, qai, qaj]
            rfl
           refine qan (i := 7) (N := some 37) (v := ?_) (a' := ?_) #[tT,tT,tT,tT,tT,tT,tT,tT,fF,fF] rfl rfl (aO_ HT_.out) (fun _ _ _ h => h) (.inl ⟨by rfl, ?_⟩) ?_ ?_
           rotate_left
           ·intro w'
            go_simp
            with_reducible rfl
           rotate_left
           ·simp only [Act.put, sP_, qai, qaj]
            rfl
           refine one_ (i := 8) (N := some 38) #[tT,tT,tT,tT,tT,tT,tT,tT,tT,fF] rfl rfl (one_of HT_.out (by kernel_rfl)) (by decide) (fun K hK => ?_)
           refine event_step (v := .int .i64 (rd t286 ((rd_T39 l0_1 x15_1).f1))) (by rfl) (by go_simp; with_reducible rfl) ?_
           refine hK.out _ _ hHeld (fun hHeld => ?_)
           clear hK K
           refine norm_ (a' := ?_) ?_ ?_
           rotate_left
           ·show Act.put _ (some 38) _ = _
            simp only [Act.put, sP_, qai, qaj]
            rfl
           refine qan (i := 9) (N := some 8) (v := ?_) (a' := ?_) #[tT,tT,tT,tT,tT,tT,tT,tT,tT,tT] rfl rfl (aO_ HT_.out) (fun _ _ _ h => h) (.inl ⟨by rfl, ?_⟩) ?_ ?_
           rotate_left
           ·intro w'
            go_simp
            with_reducible rfl
           rotate_left
           ·simp only [Act.put, sP_, qai, qaj]
            rfl
           refine done_ (done_of HT_.out (by kernel_rfl)) ?_
           try go_wp2
           go_roundg k1
           case measure => have := HK1.out; omega
           case rel => exact ⟨(wrap64 ((rd t286 ((rd_T39 l0_1 x15_1).f1)) + 1)), (wrap64 (x15_1 + 1)), rS_, rS_, H', ⟨by have := HK1.out; omega⟩, ⟨by (with_reducible repeat (first | refine qad ?_ _ | refine qab ?_ | refine qae ?_ _)); exact BK272.out⟩, ⟨by repeat (first | (with_reducible first | exact HB.out | apply qal | apply qac | apply qaf | refine qag ?_ GE272.out | refine qag ?_ GE275.out | refine qag ?_ GE282.out) | exact HB.out)⟩⟩
          ·rw [if_neg c18] at H
           have c18b0 : (x4_1 == 0) = false := beq_eq_false_iff_ne.mpr c18
           have c18b1 : (x4_1 != 0) = true := bne_iff_ne.mpr c18
           by_cases c39 : (wrap64 ((rd t286 ((rd_T39 l0_1 x15_1).f1)) + 1)) < x4_1
           ·rw [if_pos c39] at H
            have c39b0 : decide ((wrap64 ((rd t286 ((rd_T39 l0_1 x15_1).f1)) + 1)) < x4_1) = true := decide_eq_true c39
            (try (have c39b0_w : decide ((IntKind.i64.wrap ((rd t286 ((rd_T39 l0_1 x15_1).f1)) + 1)) < x4_1) = true := (by simp only [qai]; exact c39b0)))
            clear c39
            have H' := Aside0.mk H
            clear H
            have p274 : 0 ≤ (x15_1 : Int) := oD_
            have q274 : x15_1 < (l0_1.length : Int) := oD_
            obtain ⟨ad274, e274, hx274_0, hx274_1⟩ := at_T39 HR0_1.out x15_1 p274 q274
            cases e274
            (try (replace hx274_0 := (HB.out.cell (World.block_lt_of_cell? w _ hx274_0)).trans hx274_0))
            (try (replace hx274_1 := (HB.out.cell (World.block_lt_of_cell? w _ hx274_1)).trans hx274_1))
            replace p274 := eq_true p274
            replace q274 := eq_true q274
            try go_wp2_with (first | ((with_reducible refine gate_dst (N := 6) rfl ?_); refine box_event ?hg (N := 6) ?hd (cs := #[.int .i64 0, .int .i64 0]) (t := 39) ?hr ?_; (case hd => rfl); (case hg => rfl); (case hr => first | (go_simp; done) | (go_simp; rfl)); intro gb275 hg w40 hbox hb; have n0_ := Aside0.mk (qaq (g := gb272) (o := .cells #[.int .i64 a0_0, .slice (some ad274) l0_1.length c0_1] 30 (0, 0)) (uB_ BK272.out) hb); have n1_ := Aside0.mk (qao (hB1_ GE272.out) hb); have n2_ := Aside0.mk (hbox); have n3_ := Aside0.mk ((by rw [hg]; exact (qap (hB1_ GE272.out)) : w.heap.size ≤ gb275)); have n4_ := n3_; have n5_ := Aside0.mk ((by rw [hg]; exact Nat.ne_of_lt (blk_lt (g := gb272) (o := .cells #[.int .i64 a0_0, .slice (some ad274) l0_1.length c0_1] 30 (0, 0)) (uB_ BK272.out)) : gb272 ≠ gb275)); have n6_ := Aside0.mk n5_.out.symm; clear BK272; clear HB; have BK272 := n0_; have HB := n1_; have BK275 := n2_; have GW275 := n3_; have GE275 := n4_; have NB272_275 := n5_; have NB275_272 := n6_; clear n0_ n1_ n2_ n3_ n4_ n5_ n6_; clear hb hbox hg; have hnb41 := NB275_272.out; have hnc41 := NB272_275.out; have hcz42_0 : w40.cell? ⟨gb275, 0, none⟩ = some (.int .i64 0) := (qaa BK275.out 0).trans rfl; have hcz42_1 : w40.cell? ⟨gb275, 1, none⟩ = some (.int .i64 0) := (qaa BK275.out 1).trans rfl; have hfz42_0 := qam BK275.out 0; have hfz42_1 := qam BK275.out 1))
            have n0_ : Aside0 (((w40.setCell ⟨gb275, 0, none⟩ (.int .i64 ((rd_T39 l0_1 x15_1).f0))).setCell ⟨gb275, 1, none⟩ (.int .i64 ((rd_T39 l0_1 x15_1).f1))).heap[gb272]? = some (.cells #[.int .i64 a0_0, .slice (some ad274) l0_1.length c0_1] 30 (0, 0))) := ⟨by (with_reducible repeat (first | refine qad ?_ _ | refine qab ?_ | refine qae ?_ _)); refine blk_far ?_ NB272_275.out _; (with_reducible repeat (first | refine qad ?_ _ | refine qab ?_ | refine qae ?_ _)); refine blk_far ?_ NB272_275.out _; (with_reducible repeat (first | refine qad ?_ _ | refine qab ?_ | refine qae ?_ _)); exact BK272.out⟩
            have n1_ : Aside0 (((w40.setCell ⟨gb275, 0, none⟩ (.int .i64 ((rd_T39 l0_1 x15_1).f0))).setCell ⟨gb275, 1, none⟩ (.int .i64 ((rd_T39 l0_1 x15_1).f1))).heap[gb275]? = some (.cells #[.int .i64 ((rd_T39 l0_1 x15_1).f0), .int .i64 ((rd_T39 l0_1 x15_1).f1)] 39 (0, 0))) := ⟨by (with_reducible repeat (first | refine qad ?_ _ | refine qab ?_ | refine qae ?_ _)); refine blk_put (cs := #[.int .i64 ((rd_T39 l0_1 x15_1).f0), .int .i64 0]) ?_ 1 _ rfl; (with_reducible repeat (first | refine qad ?_ _ | refine qab ?_ | refine qae ?_ _)); refine blk_put (cs := #[.int .i64 0, .int .i64 0]) ?_ 0 _ rfl; (with_reducible repeat (first | refine qad ?_ _ | refine qab ?_ | refine qae ?_ _)); exact BK275.out⟩
            have n2_ : Aside0 (Below w.heap.size w ((w40.setCell ⟨gb275, 0, none⟩ (.int .i64 ((rd_T39 l0_1 x15_1).f0))).setCell ⟨gb275, 1, none⟩ (.int .i64 ((rd_T39 l0_1 x15_1).f1)))) := ⟨by repeat (first | (with_reducible first | exact HB.out | apply qal | apply qac | apply qaf | refine qag ?_ GE272.out | refine qag ?_ GE275.out) | exact HB.out)⟩
            (try clear BK272)
            (try clear BK275)
            (try clear HB)
            generalize ((w40.setCell ⟨gb275, 0, none⟩ (.int .i64 ((rd_T39 l0_1 x15_1).f0))).setCell ⟨gb275, 1, none⟩ (.int .i64 ((rd_T39 l0_1 x15_1).f1))) = w43 at n0_ n1_ n2_ ⊢
            have BK272 := n0_
            have BK275 := n1_
            have HB := n2_
            clear n0_ n1_ n2_
            have n0_ := Aside0.mk (qab BK272.out)
            have n1_ := Aside0.mk (qab BK275.out)
            have n2_ := Aside0.mk (qaf HB.out)
            clear BK272
            clear BK275
            clear HB
            have BK272 := n0_
            have BK275 := n1_
            have HB := n2_
            clear n0_ n1_ n2_
            refine start_ (n := 12) (S := fun w' => w'.cell? ⟨gb272, 0, none⟩ = some (.int .i64 a0_0) ∧ w'.cell? ⟨gb272, 1, none⟩ = some (.slice (some ad274) l0_1.length c0_1)) (ds := []) #[fF,fF,fF,fF,fF,fF,fF,fF,fF,fF,fF,fF] (by kernel_rfl) rfl rfl ⟨(qaa BK272.out 0).trans rfl, (qaa BK272.out 1).trans rfl⟩ (fun hHeld => ?_); refine with_tabW impl_ShortestRound.tab7 impl_ShortestRound.bits7 (fun HT_ HW_ => ?_)
            generalize w43.drew = w44 at BK272 BK275 HB hHeld ⊢
            refine qan (i := 0) (N := some 20) (v := ?_) (a' := ?_) #[tT,fF,fF,fF,fF,fF,fF,fF,fF,fF,fF,fF] rfl rfl (aO_ HT_.out) (fun _ _ _ h => h) (.inl ⟨by rfl, ?_⟩) ?_ ?_
            rotate_left
            ·intro w'
             go_simp
             with_reducible rfl
            rotate_left
            ·simp only [Act.put, sP_, qai, qaj]
             rfl
            refine qan (i := 2) (N := some 22) (v := ?_) (a' := ?_) #[tT,fF,tT,fF,fF,fF,fF,fF,fF,fF,fF,fF] rfl rfl (aO_ HT_.out) (fun _ _ _ h => h) (.inl ⟨by rfl, ?_⟩) ?_ ?_
            rotate_left
            ·intro w'
             go_simp
             with_reducible rfl
            rotate_left
            ·simp only [Act.put, sP_, qai, qaj]
             rfl
            refine qan (i := 5) (N := some 25) (v := ?_) (a' := ?_) #[tT,fF,tT,fF,fF,tT,fF,fF,fF,fF,fF,fF] rfl rfl (aO_ HT_.out) (fun _ _ _ h => h) (.inl ⟨by rfl, ?_⟩) ?_ ?_
            rotate_left
            ·intro w'
             go_simp
             with_reducible rfl
            rotate_left
            ·simp only [Act.put, sP_, qai, qaj]
             rfl
            refine qan (i := 6) (N := some 26) (v := ?_) (a' := ?_) #[tT,fF,tT,fF,fF,tT,tT,fF,fF,fF,fF,fF] rfl rfl (aO_ HT_.out) (fun _ _ _ h => h) (.inl ⟨by rfl, ?_⟩) ?_ ?_
            rotate_left
            ·intro w'
             go_simp
             with_reducible rfl
            rotate_left
            ·simp only [Act.put, sP_, qai, qaj]
             rfl
            refine qan (i := 7) (N := some 27) (v := ?_) (a' := ?_) #[tT,fF,tT,fF,fF,tT,tT,tT,fF,fF,fF,fF] rfl rfl (aO_ HT_.out) (fun _ _ _ h => h) (.inl ⟨by rfl, ?_⟩) ?_ ?_
            rotate_left
            ·intro w'
             go_simp
             with_reducible rfl
            rotate_left
            ·simp only [Act.put, sP_, qai, qaj]
             rfl
            refine take_ (i := 1) (N := some 21) (v := ?_) (a' := ?_) #[tT,tT,tT,fF,fF,tT,tT,tT,fF,fF,fF,fF] rfl rfl (qar HT_.out HW_.out (by kernel_rfl)) (fun _ _ _ h => h) (Or.inl ⟨by rfl, ?_⟩) hHeld ?_ ?_
            rotate_left
            ·rintro w' ⟨s0, s1⟩
             go_simp
             with_reducible rfl
            rotate_left
            ·simp only [Act.put, sP_, qai, qaj]
             rfl
            refine take_ (i := 3) (N := some 23) (v := ?_) (a' := ?_) #[tT,tT,tT,tT,fF,tT,tT,tT,fF,fF,fF,fF] rfl rfl (qar HT_.out HW_.out (by kernel_rfl)) (fun _ _ _ h => h) (Or.inl ⟨by rfl, ?_⟩) hHeld ?_ ?_
            rotate_left
            ·rintro w' ⟨s0, s1⟩
             go_simp
             with_reducible rfl
            rotate_left
            ·simp only [Act.put, sP_, qai, qaj]
             rfl
            refine join_ (σ := Value × Value × Nat) 1 #[tT,tT,tT,tT,tT,tT,tT,tT,tT,tT,tT,fF] (fun s_ => [(24, s_.1), (28, s_.2.1), (7, .pointer (some ⟨s_.2.2, 0, none⟩)), (29, .agg #[.int .i64 a0_0, s_.2.1])]) (fun s_ w' => (w'.cell? ⟨gb272, 0, none⟩ = some (.int .i64 a0_0) ∧ w'.cell? ⟨gb272, 1, none⟩ = some (.slice (some ad274) l0_1.length c0_1)) ∧ (Kd.R k39 39 w' w.heap.size (fun k_ => k_ ≠ gb275) s_.2.1 t279) ∧ (w'.heap[gb272]? = some (.cells #[.int .i64 a0_0, .slice (some ad274) l0_1.length c0_1] 30 (0, 0))) ∧ (w'.heap[gb275]? = some (.cells #[.int .i64 ((rd_T39 l0_1 x15_1).f0), .int .i64 ((rd_T39 l0_1 x15_1).f1)] 39 (0, 0))) ∧ (w'.heap[s_.2.2]? = some (.cells #[.int .i64 0, .slice none 0 0] 30 (0, 0))) ∧ (w.heap.size ≤ s_.2.2) ∧ (w.heap.size ≤ s_.2.2) ∧ (gb272 ≠ s_.2.2) ∧ (s_.2.2 ≠ gb272) ∧ (gb275 ≠ s_.2.2) ∧ (s_.2.2 ≠ gb275) ∧ (Below w.heap.size w w')) ?_ ?_
            rotate_left
            ·intro hCont
             refine two_ (i := 4) (j := 10) (Ni := some 24) (Nj := some 7) #[tT,tT,tT,tT,tT,tT,tT,tT,fF,fF,fF,fF] #[tT,tT,tT,tT,fF,tT,tT,tT,fF,fF,tT,fF] rfl rfl rfl rfl (two_of HT_.out (by kernel_rfl)) (by decide) (by decide) (fun K hK => ?_) (fun K hK => ?_)
             ·skip
              refine goes_ Tryd.func16 (by kernel_rfl) rfl #[.slice (some ad274) l0_1.length c0_1] (by rfl) rfl rfl mT_ ?_
              with_reducible refine (impl_Pair_16.calls _ _ l0_1 t276 _ ?side1 ?side2 A11.out).mono ?_
              (case side1 => repeat (first | exact (Kd.C_below HR0_1.out HB.out) | (with_reducible refine Kd.C_alloc ?_ _) | (with_reducible refine Kd.C_drewN ?_ _) | (with_reducible refine Kd.C_drew ?_)))
              (case side2 => exact HC0_1.out)
              rintro e w45 ⟨v277, rfl, ho0, hb⟩
              refine ⟨_, rfl, ?_⟩
              have n0_ := Aside0.mk (Kd.R_lower (Kd.R_newB ho0 (g := gb275) (o := .cells #[.int .i64 ((rd_T39 l0_1 x15_1).f0), .int .i64 ((rd_T39 l0_1 x15_1).f1)] 39 (0, 0)) (uB_ BK275.out)) (qap (hB2_ GE272.out GE275.out)))
              have n1_ := Aside0.mk (qaq (g := gb272) (o := .cells #[.int .i64 a0_0, .slice (some ad274) l0_1.length c0_1] 30 (0, 0)) (uB_ BK272.out) hb)
              have n2_ := Aside0.mk (qaq (g := gb275) (o := .cells #[.int .i64 ((rd_T39 l0_1 x15_1).f0), .int .i64 ((rd_T39 l0_1 x15_1).f1)] 39 (0, 0)) (uB_ BK275.out) hb)
              have n3_ := Aside0.mk (qao (hB2_ GE272.out GE275.out) hb)
              clear BK272
              clear BK275
              clear HB
              have HO278 := n0_
              have BK272 := n1_
              have BK275 := n2_
              have HB := n3_
              clear n0_ n1_ n2_ n3_
              (try clear hb)
              (try clear hb2)
              (try clear hk)
              (try clear hi)
              (try clear ho0)
              obtain ⟨Ao46, co46, eo46⟩ := Kd.R_slice HO278.out
              (first | subst eo46 | (injection eo46 with f1_ f2_ f3_; have f4_ := f1_.symm; have f5_ := f3_.symm; clear f1_ f2_ f3_; subst f4_; subst f5_))
              refine hK.out _ _ ⟨(qaa BK272.out 0).trans rfl, (qaa BK272.out 1).trans rfl⟩ (fun hHeld => ?_)
              clear hK K
              refine norm_ (a' := ?_) ?_ ?_
              rotate_left
              ·show Act.put _ (some 24) _ = _
               simp only [Act.put, sP_, qai, qaj]
               rfl
              refine two_ (i := 8) (j := 10) (Ni := some 28) (Nj := some 7) #[tT,tT,tT,tT,tT,tT,tT,tT,tT,fF,fF,fF] #[tT,tT,tT,tT,tT,tT,tT,tT,fF,fF,tT,fF] rfl rfl rfl rfl (two_of HT_.out (by kernel_rfl)) (by decide) (by decide) (fun K hK => ?_) (fun K hK => ?_)
              ·skip
               refine goes_ Tryd.func15 (by kernel_rfl) rfl #[.slice Ao46 t276.length co46, .int .i64 x15_1, .int .i64 (wrap64 (x15_1 + 1))] (by rfl) rfl rfl mT_ ?_
               with_reducible refine (impl_Pair_15.calls (fun k_ => some k_ = (.slice Ao46 t276.length co46 : Value).ownBlock) (.slice Ao46 t276.length co46) t276 x15_1 (wrap64 (x15_1 + 1)) t279 w _ ?side1 ?side2 A12.out).mono ?_
               (case side1 => repeat (first | (with_reducible first | exact HB.out | apply qal | apply qac | apply qaf | refine qag ?_ GE272.out | refine qag ?_ GE275.out) | exact HB.out))
               (case side2 => exact Kd.R_tight rfl HO278.out)
               rintro e w47 ⟨v280, rfl, ho0, hb, hkp⟩
               refine ⟨_, rfl, ?_⟩
               have n0_ := Aside0.mk (blk_kept (uB_ BK272.out) hkp (fun hs_ => (fun e_ => (Kd.R_ne HO278.out BK272.out (by decide)) e_) hs_))
               have n1_ := Aside0.mk (blk_kept (uB_ BK275.out) hkp (fun hs_ => (fun e_ => (Kd.R_away HO278.out (fun _ hk => hk.2)) e_) hs_))
               have n2_ := Aside0.mk (Kd.R_mono (ok' := fun k_ => k_ ≠ gb275) ho0 (fun k_ hk_ => Or.elim hk_ (fun hs_ => fun e_ => (Kd.R_away HO278.out (fun _ hk => hk.2)) (by rw [← e_]; exact hs_)) (fun hn_ => (Kd.freshB (g := gb275) (o := .cells #[.int .i64 ((rd_T39 l0_1 x15_1).f0), .int .i64 ((rd_T39 l0_1 x15_1).f1)] 39 (0, 0)) (uB_ BK275.out) k_ hn_))))
               have n3_ := Aside0.mk (hb)
               clear BK272
               clear BK275
               clear HB
               clear HO278
               have BK272 := n0_
               have BK275 := n1_
               have HO281 := n2_
               have HB := n3_
               clear n0_ n1_ n2_ n3_
               (try clear hb)
               (try clear hkp)
               (try clear ho0)
               obtain ⟨Ao48, co48, eo48⟩ := Kd.R_slice HO281.out
               (first | subst eo48 | (injection eo48 with f1_ f2_ f3_; have f4_ := f1_.symm; have f5_ := f3_.symm; clear f1_ f2_ f3_; subst f4_; subst f5_))
               refine hK.out _ _ ⟨(qaa BK272.out 0).trans rfl, (qaa BK272.out 1).trans rfl⟩ (fun hHeld => ?_)
               clear hK K
               refine norm_ (a' := ?_) ?_ ?_
               rotate_left
               ·show Act.put _ (some 28) _ = _
                simp only [Act.put, sP_, qai, qaj]
                rfl
               refine qan (i := 9) (N := some 29) (v := ?_) (a' := ?_) #[tT,tT,tT,tT,tT,tT,tT,tT,tT,tT,fF,fF] rfl rfl (aO_ HT_.out) (fun _ _ _ h => h) (.inl ⟨by rfl, ?_⟩) ?_ ?_
               rotate_left
               ·intro w'
                go_simp
                with_reducible rfl
               rotate_left
               ·simp only [Act.put, sP_, qai, qaj]
                rfl
               refine one_ (i := 10) (N := some 7) #[tT,tT,tT,tT,tT,tT,tT,tT,tT,tT,tT,fF] rfl rfl (one_of HT_.out (by kernel_rfl)) (by decide) (fun K hK => ?_)
               refine box_step ?hg (N := 7) ?hd (cs := #[.int .i64 0, .slice none 0 0]) (t := 30) ?hr ?_; (case hd => rfl); (case hg => rfl); (case hr => first | (go_simp; done) | (go_simp; rfl))
               intro gb282 hg w49 hbox hb
               have n0_ := Aside0.mk (Kd.R_below (uR_ HO281.out) hb)
               have n1_ := Aside0.mk (qaq (g := gb272) (o := .cells #[.int .i64 a0_0, .slice (some ad274) l0_1.length c0_1] 30 (0, 0)) (uB_ BK272.out) hb)
               have n2_ := Aside0.mk (qaq (g := gb275) (o := .cells #[.int .i64 ((rd_T39 l0_1 x15_1).f0), .int .i64 ((rd_T39 l0_1 x15_1).f1)] 39 (0, 0)) (uB_ BK275.out) hb)
               have n3_ := Aside0.mk (qao (hB2_ GE272.out GE275.out) hb)
               have n4_ := Aside0.mk (hbox)
               have n5_ := Aside0.mk ((by rw [hg]; exact (qap (hB2_ GE272.out GE275.out)) : w.heap.size ≤ gb282))
               have n6_ := Aside0.mk ((by rw [hg]; exact (qap (hB2_ GE272.out GE275.out)) : w.heap.size ≤ gb282))
               have n7_ := Aside0.mk ((by rw [hg]; exact Nat.ne_of_lt (blk_lt (g := gb272) (o := .cells #[.int .i64 a0_0, .slice (some ad274) l0_1.length c0_1] 30 (0, 0)) (uB_ BK272.out)) : gb272 ≠ gb282))
               have n8_ := Aside0.mk ((by rw [hg]; exact Nat.ne_of_gt (blk_lt (g := gb272) (o := .cells #[.int .i64 a0_0, .slice (some ad274) l0_1.length c0_1] 30 (0, 0)) (uB_ BK272.out)) : gb282 ≠ gb272))
               have n9_ := Aside0.mk ((by rw [hg]; exact Nat.ne_of_lt (blk_lt (g := gb275) (o := .cells #[.int .i64 ((rd_T39 l0_1 x15_1).f0), .int .i64 ((rd_T39 l0_1 x15_1).f1)] 39 (0, 0)) (uB_ BK275.out)) : gb275 ≠ gb282))
               have n10_ := Aside0.mk ((by rw [hg]; exact Nat.ne_of_gt (blk_lt (g := gb275) (o := .cells #[.int .i64 ((rd_T39 l0_1 x15_1).f0), .int .i64 ((rd_T39 l0_1 x15_1).f1)] 39 (0, 0)) (uB_ BK275.out)) : gb282 ≠ gb275))
               clear HO281
               clear BK272
               clear BK275
               clear HB
               have HO281 := n0_
               have BK272 := n1_
               have BK275 := n2_
               have HB := n3_
               have BK282 := n4_
               have GW282 := n5_
               have GE282 := n6_
               have NB272_282 := n7_
               have NB282_272 := n8_
               have NB275_282 := n9_
               have NB282_275 := n10_
               clear n0_ n1_ n2_ n3_ n4_ n5_ n6_ n7_ n8_ n9_ n10_
               clear hb hbox hg
               refine hK.out _ _ ⟨(qaa BK272.out 0).trans rfl, (qaa BK272.out 1).trans rfl⟩ (fun hHeld => ?_)
               clear hK K
               refine norm_ (a' := ?_) ?_ ?_
               rotate_left
               ·show Act.put _ (some 7) _ = _
                simp only [Act.put, sP_, qai, qaj]
                rfl
               exact norm_ (by simp only [putAll, Act.put, sP_]) (hCont (.slice Ao46 t276.length co46, .slice Ao48 t279.length co48, gb282) _ ⟨hHeld, (uR_ HO281.out), (uB_ BK272.out), (uB_ BK275.out), (uB_ BK282.out), GW282.out, GE282.out, NB272_282.out, NB282_272.out, NB275_282.out, NB282_275.out, (hB3_ GE272.out GE275.out GE282.out)⟩)
              ·skip
               refine box_step ?hg (N := 7) ?hd (cs := #[.int .i64 0, .slice none 0 0]) (t := 30) ?hr ?_; (case hd => rfl); (case hg => rfl); (case hr => first | (go_simp; done) | (go_simp; rfl))
               intro gb282 hg w46 hbox hb
               have n0_ := Aside0.mk (Kd.R_below (uR_ HO278.out) hb)
               have n1_ := Aside0.mk (qaq (g := gb272) (o := .cells #[.int .i64 a0_0, .slice (some ad274) l0_1.length c0_1] 30 (0, 0)) (uB_ BK272.out) hb)
               have n2_ := Aside0.mk (qaq (g := gb275) (o := .cells #[.int .i64 ((rd_T39 l0_1 x15_1).f0), .int .i64 ((rd_T39 l0_1 x15_1).f1)] 39 (0, 0)) (uB_ BK275.out) hb)
               have n3_ := Aside0.mk (qao (hB2_ GE272.out GE275.out) hb)
               have n4_ := Aside0.mk (hbox)
               have n5_ := Aside0.mk ((by rw [hg]; exact (qap (hB2_ GE272.out GE275.out)) : w.heap.size ≤ gb282))
               have n6_ := Aside0.mk ((by rw [hg]; exact (qap (hB2_ GE272.out GE275.out)) : w.heap.size ≤ gb282))
               have n7_ := Aside0.mk ((by rw [hg]; exact Nat.ne_of_lt (blk_lt (g := gb272) (o := .cells #[.int .i64 a0_0, .slice (some ad274) l0_1.length c0_1] 30 (0, 0)) (uB_ BK272.out)) : gb272 ≠ gb282))
               have n8_ := Aside0.mk ((by rw [hg]; exact Nat.ne_of_gt (blk_lt (g := gb272) (o := .cells #[.int .i64 a0_0, .slice (some ad274) l0_1.length c0_1] 30 (0, 0)) (uB_ BK272.out)) : gb282 ≠ gb272))
               have n9_ := Aside0.mk ((by rw [hg]; exact Nat.ne_of_lt (blk_lt (g := gb275) (o := .cells #[.int .i64 ((rd_T39 l0_1 x15_1).f0), .int .i64 ((rd_T39 l0_1 x15_1).f1)] 39 (0, 0)) (uB_ BK275.out)) : gb275 ≠ gb282))
               have n10_ := Aside0.mk ((by rw [hg]; exact Nat.ne_of_gt (blk_lt (g := gb275) (o := .cells #[.int .i64 ((rd_T39 l0_1 x15_1).f0), .int .i64 ((rd_T39 l0_1 x15_1).f1)] 39 (0, 0)) (uB_ BK275.out)) : gb282 ≠ gb275))
               clear HO278
               clear BK272
               clear BK275
               clear HB
               have HO278 := n0_
               have BK272 := n1_
               have BK275 := n2_
               have HB := n3_
               have BK282 := n4_
               have GW282 := n5_
               have GE282 := n6_
               have NB272_282 := n7_
               have NB282_272 := n8_
               have NB275_282 := n9_
               have NB282_275 := n10_
               clear n0_ n1_ n2_ n3_ n4_ n5_ n6_ n7_ n8_ n9_ n10_
               clear hb hbox hg
               obtain ⟨Ao47, co47, eo47⟩ := Kd.R_slice HO278.out
               (first | subst eo47 | (injection eo47 with f1_ f2_ f3_; have f4_ := f1_.symm; have f5_ := f3_.symm; clear f1_ f2_ f3_; subst f4_; subst f5_))
               refine hK.out _ _ ⟨(qaa BK272.out 0).trans rfl, (qaa BK272.out 1).trans rfl⟩ (fun hHeld => ?_)
               clear hK K
               refine norm_ (a' := ?_) ?_ ?_
               rotate_left
               ·show Act.put _ (some 7) _ = _
                simp only [Act.put, sP_, qai, qaj]
                rfl
               refine one_ (i := 8) (N := some 28) #[tT,tT,tT,tT,tT,tT,tT,tT,tT,fF,tT,fF] rfl rfl (one_of HT_.out (by kernel_rfl)) (by decide) (fun K hK => ?_)
               refine goes_ Tryd.func15 (by kernel_rfl) rfl #[.slice Ao47 t276.length co47, .int .i64 x15_1, .int .i64 (wrap64 (x15_1 + 1))] (by rfl) rfl rfl mT_ ?_
               with_reducible refine (impl_Pair_15.calls (fun k_ => some k_ = (.slice Ao47 t276.length co47 : Value).ownBlock) (.slice Ao47 t276.length co47) t276 x15_1 (wrap64 (x15_1 + 1)) t279 w _ ?side1 ?side2 A12.out).mono ?_
               (case side1 => repeat (first | (with_reducible first | exact HB.out | apply qal | apply qac | apply qaf | refine qag ?_ GE272.out | refine qag ?_ GE275.out | refine qag ?_ GE282.out) | exact HB.out))
               (case side2 => exact Kd.R_tight rfl HO278.out)
               rintro e w48 ⟨v280, rfl, ho0, hb, hkp⟩
               refine ⟨_, rfl, ?_⟩
               have n0_ := Aside0.mk (blk_kept (uB_ BK272.out) hkp (fun hs_ => (fun e_ => (Kd.R_ne HO278.out BK272.out (by decide)) e_) hs_))
               have n1_ := Aside0.mk (blk_kept (uB_ BK275.out) hkp (fun hs_ => (fun e_ => (Kd.R_away HO278.out (fun _ hk => hk.2)) e_) hs_))
               have n2_ := Aside0.mk (blk_kept (uB_ BK282.out) hkp (fun hs_ => (fun e_ => (Kd.R_ne HO278.out BK282.out (by decide)) e_) hs_))
               have n3_ := Aside0.mk (Kd.R_mono (ok' := fun k_ => k_ ≠ gb275) ho0 (fun k_ hk_ => Or.elim hk_ (fun hs_ => fun e_ => (Kd.R_away HO278.out (fun _ hk => hk.2)) (by rw [← e_]; exact hs_)) (fun hn_ => (Kd.freshB (g := gb275) (o := .cells #[.int .i64 ((rd_T39 l0_1 x15_1).f0), .int .i64 ((rd_T39 l0_1 x15_1).f1)] 39 (0, 0)) (uB_ BK275.out) k_ hn_))))
               have n4_ := Aside0.mk (hb)
               clear BK272
               clear BK275
               clear BK282
               clear HB
               clear HO278
               have BK272 := n0_
               have BK275 := n1_
               have BK282 := n2_
               have HO281 := n3_
               have HB := n4_
               clear n0_ n1_ n2_ n3_ n4_
               (try clear hb)
               (try clear hkp)
               (try clear ho0)
               obtain ⟨Ao49, co49, eo49⟩ := Kd.R_slice HO281.out
               (first | subst eo49 | (injection eo49 with f1_ f2_ f3_; have f4_ := f1_.symm; have f5_ := f3_.symm; clear f1_ f2_ f3_; subst f4_; subst f5_))
               refine hK.out _ _ ⟨(qaa BK272.out 0).trans rfl, (qaa BK272.out 1).trans rfl⟩ (fun hHeld => ?_)
               clear hK K
               refine norm_ (a' := ?_) ?_ ?_
               rotate_left
               ·show Act.put _ (some 28) _ = _
                simp only [Act.put, sP_, qai, qaj]
                rfl
               refine qan (i := 9) (N := some 29) (v := ?_) (a' := ?_) #[tT,tT,tT,tT,tT,tT,tT,tT,tT,tT,tT,fF] rfl rfl (aO_ HT_.out) (fun _ _ _ h => h) (.inl ⟨by rfl, ?_⟩) ?_ ?_
               rotate_left
               ·intro w'
                go_simp
                with_reducible rfl
               rotate_left
               ·simp only [Act.put, sP_, qai, qaj]
                rfl
               exact norm_ (by simp only [putAll, Act.put, sP_]) (hCont (.slice Ao47 t276.length co47, .slice Ao49 t279.length co49, gb282) _ ⟨hHeld, (uR_ HO281.out), (uB_ BK272.out), (uB_ BK275.out), (uB_ BK282.out), GW282.out, GE282.out, NB272_282.out, NB282_272.out, NB275_282.out, NB282_275.out, (hB3_ GE272.out GE275.out GE282.out)⟩)
             ·skip
              refine box_step ?hg (N := 7) ?hd (cs := #[.int .i64 0, .slice none 0 0]) (t := 30) ?hr ?_; (case hd => rfl); (case hg => rfl); (case hr => first | (go_simp; done) | (go_simp; rfl))
              intro gb282 hg w45 hbox hb
              have n0_ := Aside0.mk (qaq (g := gb272) (o := .cells #[.int .i64 a0_0, .slice (some ad274) l0_1.length c0_1] 30 (0, 0)) (uB_ BK272.out) hb)
              have n1_ := Aside0.mk (qaq (g := gb275) (o := .cells #[.int .i64 ((rd_T39 l0_1 x15_1).f0), .int .i64 ((rd_T39 l0_1 x15_1).f1)] 39 (0, 0)) (uB_ BK275.out) hb)
              have n2_ := Aside0.mk (qao (hB2_ GE272.out GE275.out) hb)
              have n3_ := Aside0.mk (hbox)
              have n4_ := Aside0.mk ((by rw [hg]; exact (qap (hB2_ GE272.out GE275.out)) : w.heap.size ≤ gb282))
              have n5_ := Aside0.mk ((by rw [hg]; exact (qap (hB2_ GE272.out GE275.out)) : w.heap.size ≤ gb282))
              have n6_ := Aside0.mk ((by rw [hg]; exact Nat.ne_of_lt (blk_lt (g := gb272) (o := .cells #[.int .i64 a0_0, .slice (some ad274) l0_1.length c0_1] 30 (0, 0)) (uB_ BK272.out)) : gb272 ≠ gb282))
              have n7_ := Aside0.mk ((by rw [hg]; exact Nat.ne_of_gt (blk_lt (g := gb272) (o := .cells #[.int .i64 a0_0, .slice (some ad274) l0_1.length c0_1] 30 (0, 0)) (uB_ BK272.out)) : gb282 ≠ gb272))
              have n8_ := Aside0.mk ((by rw [hg]; exact Nat.ne_of_lt (blk_lt (g := gb275) (o := .cells #[.int .i64 ((rd_T39 l0_1 x15_1).f0), .int .i64 ((rd_T39 l0_1 x15_1).f1)] 39 (0, 0)) (uB_ BK275.out)) : gb275 ≠ gb282))
              have n9_ := Aside0.mk ((by rw [hg]; exact Nat.ne_of_gt (blk_lt (g := gb275) (o := .cells #[.int .i64 ((rd_T39 l0_1 x15_1).f0), .int .i64 ((rd_T39 l0_1 x15_1).f1)] 39 (0, 0)) (uB_ BK275.out)) : gb282 ≠ gb275))
              clear BK272
              clear BK275
              clear HB
              have BK272 := n0_
              have BK275 := n1_
              have HB := n2_
              have BK282 := n3_
              have GW282 := n4_
              have GE282 := n5_
              have NB272_282 := n6_
              have NB282_272 := n7_
              have NB275_282 := n8_
              have NB282_275 := n9_
              clear n0_ n1_ n2_ n3_ n4_ n5_ n6_ n7_ n8_ n9_
              clear hb hbox hg
              refine hK.out _ _ ⟨(qaa BK272.out 0).trans rfl, (qaa BK272.out 1).trans rfl⟩ (fun hHeld => ?_)
              clear hK K
              refine norm_ (a' := ?_) ?_ ?_
              rotate_left
              ·show Act.put _ (some 7) _ = _
               simp only [Act.put, sP_, qai, qaj]
               rfl
              refine one_ (i := 4) (N := some 24) #[tT,tT,tT,tT,tT,tT,tT,tT,fF,fF,tT,fF] rfl rfl (one_of HT_.out (by kernel_rfl)) (by decide) (fun K hK => ?_)
              refine goes_ Tryd.func16 (by kernel_rfl) rfl #[.slice (some ad274) l0_1.length c0_1] (by rfl) rfl rfl mT_ ?_
              with_reducible refine (impl_Pair_16.calls _ _ l0_1 t276 _ ?side1 ?side2 A11.out).mono ?_
              (case side1 => repeat (first | exact (Kd.C_below HR0_1.out HB.out) | (with_reducible refine Kd.C_alloc ?_ _) | (with_reducible refine Kd.C_drewN ?_ _) | (with_reducible refine Kd.C_drew ?_)))
              (case side2 => exact HC0_1.out)
              rintro e w46 ⟨v277, rfl, ho0, hb⟩
              refine ⟨_, rfl, ?_⟩
              have n0_ := Aside0.mk (Kd.R_lower (Kd.R_newB ho0 (g := gb275) (o := .cells #[.int .i64 ((rd_T39 l0_1 x15_1).f0), .int .i64 ((rd_T39 l0_1 x15_1).f1)] 39 (0, 0)) (uB_ BK275.out)) (qap (hB3_ GE272.out GE275.out GE282.out)))
              have n1_ := Aside0.mk (qaq (g := gb272) (o := .cells #[.int .i64 a0_0, .slice (some ad274) l0_1.length c0_1] 30 (0, 0)) (uB_ BK272.out) hb)
              have n2_ := Aside0.mk (qaq (g := gb275) (o := .cells #[.int .i64 ((rd_T39 l0_1 x15_1).f0), .int .i64 ((rd_T39 l0_1 x15_1).f1)] 39 (0, 0)) (uB_ BK275.out) hb)
              have n3_ := Aside0.mk (qaq (g := gb282) (o := .cells #[.int .i64 0, .slice none 0 0] 30 (0, 0)) (uB_ BK282.out) hb)
              have n4_ := Aside0.mk (qao (hB3_ GE272.out GE275.out GE282.out) hb)
              clear BK272
              clear BK275
              clear BK282
              clear HB
              have HO278 := n0_
              have BK272 := n1_
              have BK275 := n2_
              have BK282 := n3_
              have HB := n4_
              clear n0_ n1_ n2_ n3_ n4_
              (try clear hb)
              (try clear hb2)
              (try clear hk)
              (try clear hi)
              (try clear ho0)
              obtain ⟨Ao47, co47, eo47⟩ := Kd.R_slice HO278.out
              (first | subst eo47 | (injection eo47 with f1_ f2_ f3_; have f4_ := f1_.symm; have f5_ := f3_.symm; clear f1_ f2_ f3_; subst f4_; subst f5_))
              refine hK.out _ _ ⟨(qaa BK272.out 0).trans rfl, (qaa BK272.out 1).trans rfl⟩ (fun hHeld => ?_)
              clear hK K
              refine norm_ (a' := ?_) ?_ ?_
              rotate_left
              ·show Act.put _ (some 24) _ = _
               simp only [Act.put, sP_, qai, qaj]
               rfl
              refine one_ (i := 8) (N := some 28) #[tT,tT,tT,tT,tT,tT,tT,tT,tT,fF,tT,fF] rfl rfl (one_of HT_.out (by kernel_rfl)) (by decide) (fun K hK => ?_)
              refine goes_ Tryd.func15 (by kernel_rfl) rfl #[.slice Ao47 t276.length co47, .int .i64 x15_1, .int .i64 (wrap64 (x15_1 + 1))] (by rfl) rfl rfl mT_ ?_
              with_reducible refine (impl_Pair_15.calls (fun k_ => some k_ = (.slice Ao47 t276.length co47 : Value).ownBlock) (.slice Ao47 t276.length co47) t276 x15_1 (wrap64 (x15_1 + 1)) t279 w _ ?side1 ?side2 A12.out).mono ?_
              (case side1 => repeat (first | (with_reducible first | exact HB.out | apply qal | apply qac | apply qaf | refine qag ?_ GE272.out | refine qag ?_ GE275.out | refine qag ?_ GE282.out) | exact HB.out))
              (case side2 => exact Kd.R_tight rfl HO278.out)
              rintro e w48 ⟨v280, rfl, ho0, hb, hkp⟩
              refine ⟨_, rfl, ?_⟩
              have n0_ := Aside0.mk (blk_kept (uB_ BK272.out) hkp (fun hs_ => (fun e_ => (Kd.R_ne HO278.out BK272.out (by decide)) e_) hs_))
              have n1_ := Aside0.mk (blk_kept (uB_ BK275.out) hkp (fun hs_ => (fun e_ => (Kd.R_away HO278.out (fun _ hk => hk.2)) e_) hs_))
              have n2_ := Aside0.mk (blk_kept (uB_ BK282.out) hkp (fun hs_ => (fun e_ => (Kd.R_ne HO278.out BK282.out (by decide)) e_) hs_))
              have n3_ := Aside0.mk (Kd.R_mono (ok' := fun k_ => k_ ≠ gb275) ho0 (fun k_ hk_ => Or.elim hk_ (fun hs_ => fun e_ => (Kd.R_away HO278.out (fun _ hk => hk.2)) (by rw [← e_]; exact hs_)) (fun hn_ => (Kd.freshB (g := gb275) (o := .cells #[.int .i64 ((rd_T39 l0_1 x15_1).f0), .int .i64 ((rd_T39 l0_1 x15_1).f1)] 39 (0, 0)) (uB_ BK275.out) k_ hn_))))
              have n4_ := Aside0.mk (hb)
              clear BK272
              clear BK275
              clear BK282
              clear HB
              clear HO278
              have BK272 := n0_
              have BK275 := n1_
              have BK282 := n2_
              have HO281 := n3_
              have HB := n4_
              clear n0_ n1_ n2_ n3_ n4_
              (try clear hb)
              (try clear hkp)
              (try clear ho0)
              obtain ⟨Ao49, co49, eo49⟩ := Kd.R_slice HO281.out
              (first | subst eo49 | (injection eo49 with f1_ f2_ f3_; have f4_ := f1_.symm; have f5_ := f3_.symm; clear f1_ f2_ f3_; subst f4_; subst f5_))
              refine hK.out _ _ ⟨(qaa BK272.out 0).trans rfl, (qaa BK272.out 1).trans rfl⟩ (fun hHeld => ?_)
              clear hK K
              refine norm_ (a' := ?_) ?_ ?_
              rotate_left
              ·show Act.put _ (some 28) _ = _
               simp only [Act.put, sP_, qai, qaj]
               rfl
              refine qan (i := 9) (N := some 29) (v := ?_) (a' := ?_) #[tT,tT,tT,tT,tT,tT,tT,tT,tT,tT,tT,fF] rfl rfl (aO_ HT_.out) (fun _ _ _ h => h) (.inl ⟨by rfl, ?_⟩) ?_ ?_
              rotate_left
              ·intro w'
               go_simp
               with_reducible rfl
              rotate_left
              ·simp only [Act.put, sP_, qai, qaj]
               rfl
              exact norm_ (by simp only [putAll, Act.put, sP_]) (hCont (.slice Ao47 t276.length co47, .slice Ao49 t279.length co49, gb282) _ ⟨hHeld, (uR_ HO281.out), (uB_ BK272.out), (uB_ BK275.out), (uB_ BK282.out), GW282.out, GE282.out, NB272_282.out, NB282_272.out, NB275_282.out, NB282_275.out, (hB3_ GE272.out GE275.out GE282.out)⟩)
            rintro ⟨v277, v280, gb282⟩ w50 ⟨hS_, h0_, h1_, h2_, h3_, h4_, h5_, h6_, h7_, h8_, h9_, h10_⟩
            have n0_ : Aside0 (Kd.R k39 39 w50 w.heap.size (fun k_ => k_ ≠ gb275) v280 t279) := ⟨h0_⟩
            have n1_ : Aside0 (w50.heap[gb272]? = some (.cells #[.int .i64 a0_0, .slice (some ad274) l0_1.length c0_1] 30 (0, 0))) := ⟨h1_⟩
            have n2_ : Aside0 (w50.heap[gb275]? = some (.cells #[.int .i64 ((rd_T39 l0_1 x15_1).f0), .int .i64 ((rd_T39 l0_1 x15_1).f1)] 39 (0, 0))) := ⟨h2_⟩
            have n3_ : Aside0 (w50.heap[gb282]? = some (.cells #[.int .i64 0, .slice none 0 0] 30 (0, 0))) := ⟨h3_⟩
            have n4_ : Aside0 (w.heap.size ≤ gb282) := ⟨h4_⟩
            have n5_ : Aside0 (w.heap.size ≤ gb282) := ⟨h5_⟩
            have n6_ : Aside0 (gb272 ≠ gb282) := ⟨h6_⟩
            have n7_ : Aside0 (gb282 ≠ gb272) := ⟨h7_⟩
            have n8_ : Aside0 (gb275 ≠ gb282) := ⟨h8_⟩
            have n9_ : Aside0 (gb282 ≠ gb275) := ⟨h9_⟩
            have n10_ : Aside0 (Below w.heap.size w w50) := ⟨h10_⟩
            clear BK272
            clear BK275
            clear HB
            clear h0_ h1_ h2_ h3_ h4_ h5_ h6_ h7_ h8_ h9_ h10_
            have HO281 := n0_
            have BK272 := n1_
            have BK275 := n2_
            have BK282 := n3_
            have GW282 := n4_
            have GE282 := n5_
            have NB272_282 := n6_
            have NB282_272 := n7_
            have NB275_282 := n8_
            have NB282_275 := n9_
            have HB := n10_
            clear n0_ n1_ n2_ n3_ n4_ n5_ n6_ n7_ n8_ n9_ n10_
            have hHeld : w50.cell? ⟨gb272, 0, none⟩ = some (.int .i64 a0_0) ∧ w50.cell? ⟨gb272, 1, none⟩ = some (.slice (some ad274) l0_1.length c0_1) := hS_
            obtain ⟨Ao51, co51, eo51⟩ := Kd.R_slice HO281.out
            (first | subst eo51 | (injection eo51 with f1_ f2_ f3_; have f4_ := f1_.symm; have f5_ := f3_.symm; clear f1_ f2_ f3_; subst f4_; subst f5_))
            refine norm_ (a' := ?_) ?_ ?_
            rotate_left
            ·simp only [putAll, Act.put, sP_]
             rfl
            refine one_ (i := 11) (N := none) #[tT,tT,tT,tT,tT,tT,tT,tT,tT,tT,tT,tT] rfl rfl (one_of HT_.out (by kernel_rfl)) (by decide) (fun K hK => ?_)
            have hs52 : w50.cell? ⟨gb282, 0, none⟩ = some (.int .i64 0) := (qaa BK282.out 0).trans rfl
            have hfs52 := qam BK282.out 0
            have hns52_0 := NB272_282.out
            have hns52_1 := NB275_282.out
            have hms52_0 := NB282_272.out
            have hms52_1 := NB282_275.out
            have hs53 : w50.cell? ⟨gb282, 1, none⟩ = some (.slice none 0 0) := (qaa BK282.out 1).trans rfl
            have hfs53 := qam BK282.out 1
            have hns53_0 := NB272_282.out
            have hns53_1 := NB275_282.out
            have hms53_0 := NB282_272.out
            have hms53_1 := NB282_275.out
            refine skip_ (w1 := ?_) (by rfl) rfl ?_ ?_
            rotate_left
            ·go_simp
             rfl
            refine hK.out _ _ ⟨((cell_far (p := ⟨gb282, _, none⟩) NB272_282.out _).trans (((cell_far (p := ⟨gb282, _, none⟩) NB272_282.out _).trans (hHeld.1)))), ((cell_far (p := ⟨gb282, _, none⟩) NB272_282.out _).trans (((cell_far (p := ⟨gb282, _, none⟩) NB272_282.out _).trans (hHeld.2))))⟩ (fun hHeld => ?_)
            clear hK K
            refine done_ (done_of HT_.out (by kernel_rfl)) ?_
            try go_wp2
            have n0_ : Aside0 (Kd.R k39 39 ((w50.setCell ⟨gb282, 0, none⟩ (.int .i64 a0_0)).setCell ⟨gb282, 1, none⟩ (.slice Ao51 t279.length co51)) w.heap.size (fun k_ => k_ ≠ gb275) (.slice Ao51 t279.length co51) t279) := ⟨by (with_reducible repeat (first | apply Kd.R_alloc | apply Kd.R_drewN | apply Kd.R_drew)); exact Kd.R_mono (Kd.R_far (p := ⟨gb282, 1, none⟩) (Kd.R_far (p := ⟨gb282, 0, none⟩) (Kd.R_types HO281.out BK282.out (by decide)) (fun _ hk => hk.2) (.int .i64 a0_0)) (fun _ hk => hk.2) (.slice Ao51 t279.length co51)) (fun _ hk => hk.1)⟩
            have n1_ : Aside0 (((w50.setCell ⟨gb282, 0, none⟩ (.int .i64 a0_0)).setCell ⟨gb282, 1, none⟩ (.slice Ao51 t279.length co51)).heap[gb272]? = some (.cells #[.int .i64 a0_0, .slice (some ad274) l0_1.length c0_1] 30 (0, 0))) := ⟨by (with_reducible repeat (first | refine qad ?_ _ | refine qab ?_ | refine qae ?_ _)); refine blk_far ?_ NB272_282.out _; (with_reducible repeat (first | refine qad ?_ _ | refine qab ?_ | refine qae ?_ _)); refine blk_far ?_ NB272_282.out _; (with_reducible repeat (first | refine qad ?_ _ | refine qab ?_ | refine qae ?_ _)); exact BK272.out⟩
            have n2_ : Aside0 (((w50.setCell ⟨gb282, 0, none⟩ (.int .i64 a0_0)).setCell ⟨gb282, 1, none⟩ (.slice Ao51 t279.length co51)).heap[gb275]? = some (.cells #[.int .i64 ((rd_T39 l0_1 x15_1).f0), .int .i64 ((rd_T39 l0_1 x15_1).f1)] 39 (0, 0))) := ⟨by (with_reducible repeat (first | refine qad ?_ _ | refine qab ?_ | refine qae ?_ _)); refine blk_far ?_ NB275_282.out _; (with_reducible repeat (first | refine qad ?_ _ | refine qab ?_ | refine qae ?_ _)); refine blk_far ?_ NB275_282.out _; (with_reducible repeat (first | refine qad ?_ _ | refine qab ?_ | refine qae ?_ _)); exact BK275.out⟩
            have n3_ : Aside0 (((w50.setCell ⟨gb282, 0, none⟩ (.int .i64 a0_0)).setCell ⟨gb282, 1, none⟩ (.slice Ao51 t279.length co51)).heap[gb282]? = some (.cells #[.int .i64 a0_0, .slice Ao51 t279.length co51] 30 (0, 0))) := ⟨by (with_reducible repeat (first | refine qad ?_ _ | refine qab ?_ | refine qae ?_ _)); refine blk_put (cs := #[.int .i64 a0_0, .slice none 0 0]) ?_ 1 _ rfl; (with_reducible repeat (first | refine qad ?_ _ | refine qab ?_ | refine qae ?_ _)); refine blk_put (cs := #[.int .i64 0, .slice none 0 0]) ?_ 0 _ rfl; (with_reducible repeat (first | refine qad ?_ _ | refine qab ?_ | refine qae ?_ _)); exact BK282.out⟩
            have n4_ : Aside0 (Below w.heap.size w ((w50.setCell ⟨gb282, 0, none⟩ (.int .i64 a0_0)).setCell ⟨gb282, 1, none⟩ (.slice Ao51 t279.length co51))) := ⟨by repeat (first | (with_reducible first | exact HB.out | apply qal | apply qac | apply qaf | refine qag ?_ GE272.out | refine qag ?_ GE275.out | refine qag ?_ GE282.out) | exact HB.out)⟩
            (try clear HO281)
            (try clear BK272)
            (try clear BK275)
            (try clear BK282)
            (try clear HB)
            generalize ((w50.setCell ⟨gb282, 0, none⟩ (.int .i64 a0_0)).setCell ⟨gb282, 1, none⟩ (.slice Ao51 t279.length co51)) = w54 at n0_ n1_ n2_ n3_ n4_ ⊢
            have HO281 := n0_
            have BK272 := n1_
            have BK275 := n2_
            have BK282 := n3_
            have HB := n4_
            clear n0_ n1_ n2_ n3_ n4_
            have n0_ := Aside0.mk (Kd.R_drew HO281.out)
            have n1_ := Aside0.mk (qab BK272.out)
            have n2_ := Aside0.mk (qab BK275.out)
            have n3_ := Aside0.mk (qab BK282.out)
            have n4_ := Aside0.mk (qaf HB.out)
            clear HO281
            clear BK272
            clear BK275
            clear BK282
            clear HB
            have HO281 := n0_
            have BK272 := n1_
            have BK275 := n2_
            have BK282 := n3_
            have HB := n4_
            clear n0_ n1_ n2_ n3_ n4_
            refine start_ (n := 10) (S := fun w' => w'.cell? ⟨gb282, 0, none⟩ = some (.int .i64 a0_0) ∧ w'.cell? ⟨gb282, 1, none⟩ = some (.slice Ao51 t279.length co51) ∧ w'.cell? ⟨gb275, 0, none⟩ = some (.int .i64 ((rd_T39 l0_1 x15_1).f0)) ∧ w'.cell? ⟨gb275, 1, none⟩ = some (.int .i64 ((rd_T39 l0_1 x15_1).f1))) (ds := []) #[fF,fF,fF,fF,fF,fF,fF,fF,fF,fF] (by kernel_rfl) rfl rfl ⟨(qaa BK282.out 0).trans rfl, (qaa BK282.out 1).trans rfl, (qaa BK275.out 0).trans rfl, (qaa BK275.out 1).trans rfl⟩ (fun hHeld => ?_); refine with_tabW impl_ShortestRound.tab8 impl_ShortestRound.bits8 (fun HT_ HW_ => ?_)
            generalize w54.drew = w55 at HO281 BK272 BK275 BK282 HB hHeld ⊢
            refine qan (i := 2) (N := some 32) (v := ?_) (a' := ?_) #[fF,fF,tT,fF,fF,fF,fF,fF,fF,fF] rfl rfl (aO_ HT_.out) (fun _ _ _ h => h) (.inl ⟨by rfl, ?_⟩) ?_ ?_
            rotate_left
            ·intro w'
             go_simp
             with_reducible rfl
            rotate_left
            ·simp only [Act.put, sP_, qai, qaj]
             rfl
            refine qan (i := 5) (N := some 35) (v := ?_) (a' := ?_) #[fF,fF,tT,fF,fF,tT,fF,fF,fF,fF] rfl rfl (aO_ HT_.out) (fun _ _ _ h => h) (.inl ⟨by rfl, ?_⟩) ?_ ?_
            rotate_left
            ·intro w'
             go_simp
             with_reducible rfl
            rotate_left
            ·simp only [Act.put, sP_, qai, qaj]
             rfl
            refine take_ (i := 0) (N := some 30) (v := ?_) (a' := ?_) #[tT,fF,tT,fF,fF,tT,fF,fF,fF,fF] rfl rfl (qar HT_.out HW_.out (by kernel_rfl)) (fun _ _ _ h => h) (Or.inl ⟨by rfl, ?_⟩) hHeld ?_ ?_
            rotate_left
            ·rintro w' ⟨s0, s1, s2, s3⟩
             go_simp
             with_reducible rfl
            rotate_left
            ·simp only [Act.put, sP_, qai, qaj]
             rfl
            refine take_ (i := 3) (N := some 33) (v := ?_) (a' := ?_) #[tT,fF,tT,tT,fF,tT,fF,fF,fF,fF] rfl rfl (qar HT_.out HW_.out (by kernel_rfl)) (fun _ _ _ h => h) (Or.inl ⟨by rfl, ?_⟩) hHeld ?_ ?_
            rotate_left
            ·rintro w' ⟨s0, s1, s2, s3⟩
             go_simp
             with_reducible rfl
            rotate_left
            ·simp only [Act.put, sP_, qai, qaj]
             rfl
            refine take_ (i := 6) (N := some 36) (v := ?_) (a' := ?_) #[tT,fF,tT,tT,fF,tT,tT,fF,fF,fF] rfl rfl (qar HT_.out HW_.out (by kernel_rfl)) (fun _ _ _ h => h) (Or.inl ⟨by rfl, ?_⟩) hHeld ?_ ?_
            rotate_left
            ·rintro w' ⟨s0, s1, s2, s3⟩
             go_simp
             with_reducible rfl
            rotate_left
            ·simp only [Act.put, sP_, qai, qaj]
             rfl
            refine one_ (i := 1) (N := some 31) #[tT,tT,tT,tT,fF,tT,tT,fF,fF,fF] rfl rfl (one_of HT_.out (by kernel_rfl)) (by decide) (fun K hK => ?_)
            refine goes_ Tryd.func17 (by kernel_rfl) rfl #[.agg #[.int .i64 a0_0, .slice Ao51 t279.length co51]] (by rfl) rfl rfl mT_ ?_
            with_reducible refine (impl_Party_table.calls k1 a0_0 _ _ t279 t283 _ ?side1 ?side2 A13.out).mono ?_
            (case side1 => repeat (first | exact (Kd.R_reads' HO281.out).2.2 | (with_reducible refine Kd.C_alloc ?_ _) | (with_reducible refine Kd.C_drewN ?_ _) | (with_reducible refine Kd.C_drew ?_)))
            (case side2 => exact (Kd.R_reads' HO281.out).2.1)
            rintro e w56 ⟨v284, rfl, ho0, hb⟩
            refine ⟨_, rfl, ?_⟩
            have n0_ := Aside0.mk (Kd.R_below (uR_ HO281.out) hb)
            have n1_ := Aside0.mk (Kd.R_lower ho0 (qap (hB3_ GE272.out GE275.out GE282.out)))
            have n2_ := Aside0.mk (qaq (g := gb272) (o := .cells #[.int .i64 a0_0, .slice (some ad274) l0_1.length c0_1] 30 (0, 0)) (uB_ BK272.out) hb)
            have n3_ := Aside0.mk (qaq (g := gb275) (o := .cells #[.int .i64 ((rd_T39 l0_1 x15_1).f0), .int .i64 ((rd_T39 l0_1 x15_1).f1)] 39 (0, 0)) (uB_ BK275.out) hb)
            have n4_ := Aside0.mk (qaq (g := gb282) (o := .cells #[.int .i64 a0_0, .slice Ao51 t279.length co51] 30 (0, 0)) (uB_ BK282.out) hb)
            have n5_ := Aside0.mk (qao (hB3_ GE272.out GE275.out GE282.out) hb)
            clear HO281
            clear BK272
            clear BK275
            clear BK282
            clear HB
            have HO281 := n0_
            have HO285 := n1_
            have BK272 := n2_
            have BK275 := n3_
            have BK282 := n4_
            have HB := n5_
            clear n0_ n1_ n2_ n3_ n4_ n5_
            (try clear hb)
            (try clear hb2)
            (try clear hk)
            (try clear hi)
            (try clear ho0)
            obtain ⟨Ao57, co57, eo57⟩ := Kd.R_slice HO285.out
            (first | subst eo57 | (injection eo57 with f1_ f2_ f3_; have f4_ := f1_.symm; have f5_ := f3_.symm; clear f1_ f2_ f3_; subst f4_; subst f5_))
            refine hK.out _ _ ⟨(qaa BK282.out 0).trans rfl, (qaa BK282.out 1).trans rfl, (qaa BK275.out 0).trans rfl, (qaa BK275.out 1).trans rfl⟩ (fun hHeld => ?_)
            clear hK K
            refine norm_ (a' := ?_) ?_ ?_
            rotate_left
            ·show Act.put _ (some 31) _ = _
             simp only [Act.put, sP_, qai, qaj]
             rfl
            refine one_ (i := 4) (N := some 34) #[tT,tT,tT,tT,tT,tT,tT,fF,fF,fF] rfl rfl (one_of HT_.out (by kernel_rfl)) (by decide) (fun K hK => ?_)
            refine goes_ Tryd.func18 (by kernel_rfl) rfl #[.slice Ao57 t283.length co57, .int .i64 ((rd_T39 l0_1 x15_1).f0)] (by rfl) rfl rfl mT_ ?_
            with_reducible refine (impl_table_distances.calls k1 _ _ t283 ((rd_T39 l0_1 x15_1).f0) t286 _ ?sideG ?side1 ?side2 A14.out).mono ?_; (case sideG => first | exact HG.out | exact Tab.below HG.out hB_)
            (case side1 => repeat (first | exact (Kd.R_reads' HO285.out).2.2 | (with_reducible refine Kd.C_alloc ?_ _) | (with_reducible refine Kd.C_drewN ?_ _) | (with_reducible refine Kd.C_drew ?_)))
            (case side2 => exact (Kd.R_reads' HO285.out).2.1)
            rintro e w58 ⟨v287, rfl, ho0, hb⟩
            refine ⟨_, rfl, ?_⟩
            have n0_ := Aside0.mk (Kd.R_below (uR_ HO281.out) hb)
            have n1_ := Aside0.mk (Kd.R_below (uR_ HO285.out) hb)
            have n2_ := Aside0.mk (Kd.R_lower ho0 (qap (hB3_ GE272.out GE275.out GE282.out)))
            have n3_ := Aside0.mk (qaq (g := gb272) (o := .cells #[.int .i64 a0_0, .slice (some ad274) l0_1.length c0_1] 30 (0, 0)) (uB_ BK272.out) hb)
            have n4_ := Aside0.mk (qaq (g := gb275) (o := .cells #[.int .i64 ((rd_T39 l0_1 x15_1).f0), .int .i64 ((rd_T39 l0_1 x15_1).f1)] 39 (0, 0)) (uB_ BK275.out) hb)
            have n5_ := Aside0.mk (qaq (g := gb282) (o := .cells #[.int .i64 a0_0, .slice Ao51 t279.length co51] 30 (0, 0)) (uB_ BK282.out) hb)
            have n6_ := Aside0.mk (qao (hB3_ GE272.out GE275.out GE282.out) hb)
            clear HO281
            clear HO285
            clear BK272
            clear BK275
            clear BK282
            clear HB
            have HO281 := n0_
            have HO285 := n1_
            have HO288 := n2_
            have BK272 := n3_
            have BK275 := n4_
            have BK282 := n5_
            have HB := n6_
            clear n0_ n1_ n2_ n3_ n4_ n5_ n6_
            (try clear hb)
            (try clear hb2)
            (try clear hk)
            (try clear hi)
            (try clear ho0)
            obtain ⟨Ao59, co59, eo59⟩ := Kd.R_slice HO288.out
            (first | subst eo59 | (injection eo59 with f1_ f2_ f3_; have f4_ := f1_.symm; have f5_ := f3_.symm; clear f1_ f2_ f3_; subst f4_; subst f5_))
            have p289 : 0 ≤ (((rd_T39 l0_1 x15_1).f1) : Int) := oD_
            have q289 : ((rd_T39 l0_1 x15_1).f1) < (t286.length : Int) := oD_
            obtain ⟨ad289, e289, hx289_0⟩ := Kd.at_int (Kd.R_reads' HO288.out).2.2 ((rd_T39 l0_1 x15_1).f1) p289 q289
            cases e289
            replace p289 := eq_true p289
            replace q289 := eq_true q289
            refine hK.out _ _ ⟨(qaa BK282.out 0).trans rfl, (qaa BK282.out 1).trans rfl, (qaa BK275.out 0).trans rfl, (qaa BK275.out 1).trans rfl⟩ (fun hHeld => ?_)
            clear hK K
            refine norm_ (a' := ?_) ?_ ?_
            rotate_left
            ·show Act.put _ (some 34) _ = _
             simp only [Act.put, sP_, qai, qaj]
             rfl
            refine qan (i := 7) (N := some 37) (v := ?_) (a' := ?_) #[tT,tT,tT,tT,tT,tT,tT,tT,fF,fF] rfl rfl (aO_ HT_.out) (fun _ _ _ h => h) (.inl ⟨by rfl, ?_⟩) ?_ ?_
            rotate_left
            ·intro w'
             go_simp
             with_reducible rfl
            rotate_left
            ·simp only [Act.put, sP_, qai, qaj]
             rfl
            refine one_ (i := 8) (N := some 38) #[tT,tT,tT,tT,tT,tT,tT,tT,tT,fF] rfl rfl (one_of HT_.out (by kernel_rfl)) (by decide) (fun K hK => ?_)
            refine event_step (v := .int .i64 (rd t286 ((rd_T39 l0_1 x15_1).f1))) (by rfl) (by go_simp; with_reducible rfl) ?_
            refine hK.out _ _ hHeld (fun hHeld => ?_)
            clear hK K
            refine norm_ (a' := ?_) ?_ ?_
            rotate_left
            ·show Act.put _ (some 38) _ = _
             simp only [Act.put, sP_, qai, qaj]
             rfl
            refine qan (i := 9) (N := some 8) (v := ?_) (a' := ?_) #[tT,tT,tT,tT,tT,tT,tT,tT,tT,tT] rfl rfl (aO_ HT_.out) (fun _ _ _ h => h) (.inl ⟨by rfl, ?_⟩) ?_ ?_
            rotate_left
            ·intro w'
             go_simp
             with_reducible rfl
            rotate_left
            ·simp only [Act.put, sP_, qai, qaj]
             rfl
            refine done_ (done_of HT_.out (by kernel_rfl)) ?_
            try go_wp2
            go_roundg k1
            case measure => have := HK1.out; omega
            case rel => exact ⟨(wrap64 ((rd t286 ((rd_T39 l0_1 x15_1).f1)) + 1)), (wrap64 (x15_1 + 1)), rS_, rS_, H', ⟨by have := HK1.out; omega⟩, ⟨by (with_reducible repeat (first | refine qad ?_ _ | refine qab ?_ | refine qae ?_ _)); exact BK272.out⟩, ⟨by repeat (first | (with_reducible first | exact HB.out | apply qal | apply qac | apply qaf | refine qag ?_ GE272.out | refine qag ?_ GE275.out | refine qag ?_ GE282.out) | exact HB.out)⟩⟩
           ·rw [if_neg c39] at H
            have c39b0 : decide ((wrap64 ((rd t286 ((rd_T39 l0_1 x15_1).f1)) + 1)) < x4_1) = false := decide_eq_false c39
            (try (have c39b0_w : decide ((IntKind.i64.wrap ((rd t286 ((rd_T39 l0_1 x15_1).f1)) + 1)) < x4_1) = false := (by simp only [qai]; exact c39b0)))
            clear c39
            have H' := Aside0.mk H
            clear H
            have p274 : 0 ≤ (x15_1 : Int) := oD_
            have q274 : x15_1 < (l0_1.length : Int) := oD_
            obtain ⟨ad274, e274, hx274_0, hx274_1⟩ := at_T39 HR0_1.out x15_1 p274 q274
            cases e274
            (try (replace hx274_0 := (HB.out.cell (World.block_lt_of_cell? w _ hx274_0)).trans hx274_0))
            (try (replace hx274_1 := (HB.out.cell (World.block_lt_of_cell? w _ hx274_1)).trans hx274_1))
            replace p274 := eq_true p274
            replace q274 := eq_true q274
            try go_wp2_with (first | ((with_reducible refine gate_dst (N := 6) rfl ?_); refine box_event ?hg (N := 6) ?hd (cs := #[.int .i64 0, .int .i64 0]) (t := 39) ?hr ?_; (case hd => rfl); (case hg => rfl); (case hr => first | (go_simp; done) | (go_simp; rfl)); intro gb275 hg w60 hbox hb; have n0_ := Aside0.mk (qaq (g := gb272) (o := .cells #[.int .i64 a0_0, .slice (some ad274) l0_1.length c0_1] 30 (0, 0)) (uB_ BK272.out) hb); have n1_ := Aside0.mk (qao (hB1_ GE272.out) hb); have n2_ := Aside0.mk (hbox); have n3_ := Aside0.mk ((by rw [hg]; exact (qap (hB1_ GE272.out)) : w.heap.size ≤ gb275)); have n4_ := n3_; have n5_ := Aside0.mk ((by rw [hg]; exact Nat.ne_of_lt (blk_lt (g := gb272) (o := .cells #[.int .i64 a0_0, .slice (some ad274) l0_1.length c0_1] 30 (0, 0)) (uB_ BK272.out)) : gb272 ≠ gb275)); have n6_ := Aside0.mk n5_.out.symm; clear BK272; clear HB; have BK272 := n0_; have HB := n1_; have BK275 := n2_; have GW275 := n3_; have GE275 := n4_; have NB272_275 := n5_; have NB275_272 := n6_; clear n0_ n1_ n2_ n3_ n4_ n5_ n6_; clear hb hbox hg; have hnb61 := NB275_272.out; have hnc61 := NB272_275.out; have hcz62_0 : w60.cell? ⟨gb275, 0, none⟩ = some (.int .i64 0) := (qaa BK275.out 0).trans rfl; have hcz62_1 : w60.cell? ⟨gb275, 1, none⟩ = some (.int .i64 0) := (qaa BK275.out 1).trans rfl; have hfz62_0 := qam BK275.out 0; have hfz62_1 := qam BK275.out 1))
            have n0_ : Aside0 (((w60.setCell ⟨gb275, 0, none⟩ (.int .i64 ((rd_T39 l0_1 x15_1).f0))).setCell ⟨gb275, 1, none⟩ (.int .i64 ((rd_T39 l0_1 x15_1).f1))).heap[gb272]? = some (.cells #[.int .i64 a0_0, .slice (some ad274) l0_1.length c0_1] 30 (0, 0))) := ⟨by (with_reducible repeat (first | refine qad ?_ _ | refine qab ?_ | refine qae ?_ _)); refine blk_far ?_ NB272_275.out _; (with_reducible repeat (first | refine qad ?_ _ | refine qab ?_ | refine qae ?_ _)); refine blk_far ?_ NB272_275.out _; (with_reducible repeat (first | refine qad ?_ _ | refine qab ?_ | refine qae ?_ _)); exact BK272.out⟩
            have n1_ : Aside0 (((w60.setCell ⟨gb275, 0, none⟩ (.int .i64 ((rd_T39 l0_1 x15_1).f0))).setCell ⟨gb275, 1, none⟩ (.int .i64 ((rd_T39 l0_1 x15_1).f1))).heap[gb275]? = some (.cells #[.int .i64 ((rd_T39 l0_1 x15_1).f0), .int .i64 ((rd_T39 l0_1 x15_1).f1)] 39 (0, 0))) := ⟨by (with_reducible repeat (first | refine qad ?_ _ | refine qab ?_ | refine qae ?_ _)); refine blk_put (cs := #[.int .i64 ((rd_T39 l0_1 x15_1).f0), .int .i64 0]) ?_ 1 _ rfl; (with_reducible repeat (first | refine qad ?_ _ | refine qab ?_ | refine qae ?_ _)); refine blk_put (cs := #[.int .i64 0, .int .i64 0]) ?_ 0 _ rfl; (with_reducible repeat (first | refine qad ?_ _ | refine qab ?_ | refine qae ?_ _)); exact BK275.out⟩
            have n2_ : Aside0 (Below w.heap.size w ((w60.setCell ⟨gb275, 0, none⟩ (.int .i64 ((rd_T39 l0_1 x15_1).f0))).setCell ⟨gb275, 1, none⟩ (.int .i64 ((rd_T39 l0_1 x15_1).f1)))) := ⟨by repeat (first | (with_reducible first | exact HB.out | apply qal | apply qac | apply qaf | refine qag ?_ GE272.out | refine qag ?_ GE275.out) | exact HB.out)⟩
            (try clear BK272)
            (try clear BK275)
            (try clear HB)
            generalize ((w60.setCell ⟨gb275, 0, none⟩ (.int .i64 ((rd_T39 l0_1 x15_1).f0))).setCell ⟨gb275, 1, none⟩ (.int .i64 ((rd_T39 l0_1 x15_1).f1))) = w63 at n0_ n1_ n2_ ⊢
            have BK272 := n0_
            have BK275 := n1_
            have HB := n2_
            clear n0_ n1_ n2_
            have n0_ := Aside0.mk (qab BK272.out)
            have n1_ := Aside0.mk (qab BK275.out)
            have n2_ := Aside0.mk (qaf HB.out)
            clear BK272
            clear BK275
            clear HB
            have BK272 := n0_
            have BK275 := n1_
            have HB := n2_
            clear n0_ n1_ n2_
            refine start_ (n := 12) (S := fun w' => w'.cell? ⟨gb272, 0, none⟩ = some (.int .i64 a0_0) ∧ w'.cell? ⟨gb272, 1, none⟩ = some (.slice (some ad274) l0_1.length c0_1)) (ds := []) #[fF,fF,fF,fF,fF,fF,fF,fF,fF,fF,fF,fF] (by kernel_rfl) rfl rfl ⟨(qaa BK272.out 0).trans rfl, (qaa BK272.out 1).trans rfl⟩ (fun hHeld => ?_); refine with_tabW impl_ShortestRound.tab7 impl_ShortestRound.bits7 (fun HT_ HW_ => ?_)
            generalize w63.drew = w64 at BK272 BK275 HB hHeld ⊢
            refine qan (i := 0) (N := some 20) (v := ?_) (a' := ?_) #[tT,fF,fF,fF,fF,fF,fF,fF,fF,fF,fF,fF] rfl rfl (aO_ HT_.out) (fun _ _ _ h => h) (.inl ⟨by rfl, ?_⟩) ?_ ?_
            rotate_left
            ·intro w'
             go_simp
             with_reducible rfl
            rotate_left
            ·simp only [Act.put, sP_, qai, qaj]
             rfl
            refine qan (i := 2) (N := some 22) (v := ?_) (a' := ?_) #[tT,fF,tT,fF,fF,fF,fF,fF,fF,fF,fF,fF] rfl rfl (aO_ HT_.out) (fun _ _ _ h => h) (.inl ⟨by rfl, ?_⟩) ?_ ?_
            rotate_left
            ·intro w'
             go_simp
             with_reducible rfl
            rotate_left
            ·simp only [Act.put, sP_, qai, qaj]
             rfl
            refine qan (i := 5) (N := some 25) (v := ?_) (a' := ?_) #[tT,fF,tT,fF,fF,tT,fF,fF,fF,fF,fF,fF] rfl rfl (aO_ HT_.out) (fun _ _ _ h => h) (.inl ⟨by rfl, ?_⟩) ?_ ?_
            rotate_left
            ·intro w'
             go_simp
             with_reducible rfl
            rotate_left
            ·simp only [Act.put, sP_, qai, qaj]
             rfl
            refine qan (i := 6) (N := some 26) (v := ?_) (a' := ?_) #[tT,fF,tT,fF,fF,tT,tT,fF,fF,fF,fF,fF] rfl rfl (aO_ HT_.out) (fun _ _ _ h => h) (.inl ⟨by rfl, ?_⟩) ?_ ?_
            rotate_left
            ·intro w'
             go_simp
             with_reducible rfl
            rotate_left
            ·simp only [Act.put, sP_, qai, qaj]
             rfl
            refine qan (i := 7) (N := some 27) (v := ?_) (a' := ?_) #[tT,fF,tT,fF,fF,tT,tT,tT,fF,fF,fF,fF] rfl rfl (aO_ HT_.out) (fun _ _ _ h => h) (.inl ⟨by rfl, ?_⟩) ?_ ?_
            rotate_left
            ·intro w'
             go_simp
             with_reducible rfl
            rotate_left
            ·simp only [Act.put, sP_, qai, qaj]
             rfl
            refine take_ (i := 1) (N := some 21) (v := ?_) (a' := ?_) #[tT,tT,tT,fF,fF,tT,tT,tT,fF,fF,fF,fF] rfl rfl (qar HT_.out HW_.out (by kernel_rfl)) (fun _ _ _ h => h) (Or.inl ⟨by rfl, ?_⟩) hHeld ?_ ?_
            rotate_left
            ·rintro w' ⟨s0, s1⟩
             go_simp
             with_reducible rfl
            rotate_left
            ·simp only [Act.put, sP_, qai, qaj]
             rfl
            refine take_ (i := 3) (N := some 23) (v := ?_) (a' := ?_) #[tT,tT,tT,tT,fF,tT,tT,tT,fF,fF,fF,fF] rfl rfl (qar HT_.out HW_.out (by kernel_rfl)) (fun _ _ _ h => h) (Or.inl ⟨by rfl, ?_⟩) hHeld ?_ ?_
            rotate_left
            ·rintro w' ⟨s0, s1⟩
             go_simp
             with_reducible rfl
            rotate_left
            ·simp only [Act.put, sP_, qai, qaj]
             rfl
            refine join_ (σ := Value × Value × Nat) 1 #[tT,tT,tT,tT,tT,tT,tT,tT,tT,tT,tT,fF] (fun s_ => [(24, s_.1), (28, s_.2.1), (7, .pointer (some ⟨s_.2.2, 0, none⟩)), (29, .agg #[.int .i64 a0_0, s_.2.1])]) (fun s_ w' => (w'.cell? ⟨gb272, 0, none⟩ = some (.int .i64 a0_0) ∧ w'.cell? ⟨gb272, 1, none⟩ = some (.slice (some ad274) l0_1.length c0_1)) ∧ (Kd.R k39 39 w' w.heap.size (fun k_ => k_ ≠ gb275) s_.2.1 t279) ∧ (w'.heap[gb272]? = some (.cells #[.int .i64 a0_0, .slice (some ad274) l0_1.length c0_1] 30 (0, 0))) ∧ (w'.heap[gb275]? = some (.cells #[.int .i64 ((rd_T39 l0_1 x15_1).f0), .int .i64 ((rd_T39 l0_1 x15_1).f1)] 39 (0, 0))) ∧ (w'.heap[s_.2.2]? = some (.cells #[.int .i64 0, .slice none 0 0] 30 (0, 0))) ∧ (w.heap.size ≤ s_.2.2) ∧ (w.heap.size ≤ s_.2.2) ∧ (gb272 ≠ s_.2.2) ∧ (s_.2.2 ≠ gb272) ∧ (gb275 ≠ s_.2.2) ∧ (s_.2.2 ≠ gb275) ∧ (Below w.heap.size w w')) ?_ ?_
            rotate_left
            ·intro hCont
             refine two_ (i := 4) (j := 10) (Ni := some 24) (Nj := some 7) #[tT,tT,tT,tT,tT,tT,tT,tT,fF,fF,fF,fF] #[tT,tT,tT,tT,fF,tT,tT,tT,fF,fF,tT,fF] rfl rfl rfl rfl (two_of HT_.out (by kernel_rfl)) (by decide) (by decide) (fun K hK => ?_) (fun K hK => ?_)
             ·skip
              refine goes_ Tryd.func16 (by kernel_rfl) rfl #[.slice (some ad274) l0_1.length c0_1] (by rfl) rfl rfl mT_ ?_
              with_reducible refine (impl_Pair_16.calls _ _ l0_1 t276 _ ?side1 ?side2 A11.out).mono ?_
              (case side1 => repeat (first | exact (Kd.C_below HR0_1.out HB.out) | (with_reducible refine Kd.C_alloc ?_ _) | (with_reducible refine Kd.C_drewN ?_ _) | (with_reducible refine Kd.C_drew ?_)))
              (case side2 => exact HC0_1.out)
              rintro e w65 ⟨v277, rfl, ho0, hb⟩
              refine ⟨_, rfl, ?_⟩
              have n0_ := Aside0.mk (Kd.R_lower (Kd.R_newB ho0 (g := gb275) (o := .cells #[.int .i64 ((rd_T39 l0_1 x15_1).f0), .int .i64 ((rd_T39 l0_1 x15_1).f1)] 39 (0, 0)) (uB_ BK275.out)) (qap (hB2_ GE272.out GE275.out)))
              have n1_ := Aside0.mk (qaq (g := gb272) (o := .cells #[.int .i64 a0_0, .slice (some ad274) l0_1.length c0_1] 30 (0, 0)) (uB_ BK272.out) hb)
              have n2_ := Aside0.mk (qaq (g := gb275) (o := .cells #[.int .i64 ((rd_T39 l0_1 x15_1).f0), .int .i64 ((rd_T39 l0_1 x15_1).f1)] 39 (0, 0)) (uB_ BK275.out) hb)
              have n3_ := Aside0.mk (qao (hB2_ GE272.out GE275.out) hb)
              clear BK272
              clear BK275
              clear HB
              have HO278 := n0_
              have BK272 := n1_
              have BK275 := n2_
              have HB := n3_
              clear n0_ n1_ n2_ n3_
              (try clear hb)
              (try clear hb2)
              (try clear hk)
              (try clear hi)
              (try clear ho0)
              obtain ⟨Ao66, co66, eo66⟩ := Kd.R_slice HO278.out
              (first | subst eo66 | (injection eo66 with f1_ f2_ f3_; have f4_ := f1_.symm; have f5_ := f3_.symm; clear f1_ f2_ f3_; subst f4_; subst f5_))
              refine hK.out _ _ ⟨(qaa BK272.out 0).trans rfl, (qaa BK272.out 1).trans rfl⟩ (fun hHeld => ?_)
              clear hK K
              refine norm_ (a' := ?_) ?_ ?_
              rotate_left
              ·show Act.put _ (some 24) _ = _
               simp only [Act.put, sP_, qai, qaj]
               rfl
              refine two_ (i := 8) (j := 10) (Ni := some 28) (Nj := some 7) #[tT,tT,tT,tT,tT,tT,tT,tT,tT,fF,fF,fF] #[tT,tT,tT,tT,tT,tT,tT,tT,fF,fF,tT,fF] rfl rfl rfl rfl (two_of HT_.out (by kernel_rfl)) (by decide) (by decide) (fun K hK => ?_) (fun K hK => ?_)
              ·skip
               refine goes_ Tryd.func15 (by kernel_rfl) rfl #[.slice Ao66 t276.length co66, .int .i64 x15_1, .int .i64 (wrap64 (x15_1 + 1))] (by rfl) rfl rfl mT_ ?_
               with_reducible refine (impl_Pair_15.calls (fun k_ => some k_ = (.slice Ao66 t276.length co66 : Value).ownBlock) (.slice Ao66 t276.length co66) t276 x15_1 (wrap64 (x15_1 + 1)) t279 w _ ?side1 ?side2 A12.out).mono ?_
               (case side1 => repeat (first | (with_reducible first | exact HB.out | apply qal | apply qac | apply qaf | refine qag ?_ GE272.out | refine qag ?_ GE275.out) | exact HB.out))
               (case side2 => exact Kd.R_tight rfl HO278.out)
               rintro e w67 ⟨v280, rfl, ho0, hb, hkp⟩
               refine ⟨_, rfl, ?_⟩
               have n0_ := Aside0.mk (blk_kept (uB_ BK272.out) hkp (fun hs_ => (fun e_ => (Kd.R_ne HO278.out BK272.out (by decide)) e_) hs_))
               have n1_ := Aside0.mk (blk_kept (uB_ BK275.out) hkp (fun hs_ => (fun e_ => (Kd.R_away HO278.out (fun _ hk => hk.2)) e_) hs_))
               have n2_ := Aside0.mk (Kd.R_mono (ok' := fun k_ => k_ ≠ gb275) ho0 (fun k_ hk_ => Or.elim hk_ (fun hs_ => fun e_ => (Kd.R_away HO278.out (fun _ hk => hk.2)) (by rw [← e_]; exact hs_)) (fun hn_ => (Kd.freshB (g := gb275) (o := .cells #[.int .i64 ((rd_T39 l0_1 x15_1).f0), .int .i64 ((rd_T39 l0_1 x15_1).f1)] 39 (0, 0)) (uB_ BK275.out) k_ hn_))))
               have n3_ := Aside0.mk (hb)
               clear BK272
               clear BK275
               clear HB
               clear HO278
               have BK272 := n0_
               have BK275 := n1_
               have HO281 := n2_
               have HB := n3_
               clear n0_ n1_ n2_ n3_
               (try clear hb)
               (try clear hkp)
               (try clear ho0)
               obtain ⟨Ao68, co68, eo68⟩ := Kd.R_slice HO281.out
               (first | subst eo68 | (injection eo68 with f1_ f2_ f3_; have f4_ := f1_.symm; have f5_ := f3_.symm; clear f1_ f2_ f3_; subst f4_; subst f5_))
               refine hK.out _ _ ⟨(qaa BK272.out 0).trans rfl, (qaa BK272.out 1).trans rfl⟩ (fun hHeld => ?_)
               clear hK K
               refine norm_ (a' := ?_) ?_ ?_
               rotate_left
               ·show Act.put _ (some 28) _ = _
                simp only [Act.put, sP_, qai, qaj]
                rfl
               refine qan (i := 9) (N := some 29) (v := ?_) (a' := ?_) #[tT,tT,tT,tT,tT,tT,tT,tT,tT,tT,fF,fF] rfl rfl (aO_ HT_.out) (fun _ _ _ h => h) (.inl ⟨by rfl, ?_⟩) ?_ ?_
               rotate_left
               ·intro w'
                go_simp
                with_reducible rfl
               rotate_left
               ·simp only [Act.put, sP_, qai, qaj]
                rfl
               refine one_ (i := 10) (N := some 7) #[tT,tT,tT,tT,tT,tT,tT,tT,tT,tT,tT,fF] rfl rfl (one_of HT_.out (by kernel_rfl)) (by decide) (fun K hK => ?_)
               refine box_step ?hg (N := 7) ?hd (cs := #[.int .i64 0, .slice none 0 0]) (t := 30) ?hr ?_; (case hd => rfl); (case hg => rfl); (case hr => first | (go_simp; done) | (go_simp; rfl))
               intro gb282 hg w69 hbox hb
               have n0_ := Aside0.mk (Kd.R_below (uR_ HO281.out) hb)
               have n1_ := Aside0.mk (qaq (g := gb272) (o := .cells #[.int .i64 a0_0, .slice (some ad274) l0_1.length c0_1] 30 (0, 0)) (uB_ BK272.out) hb)
               have n2_ := Aside0.mk (qaq (g := gb275) (o := .cells #[.int .i64 ((rd_T39 l0_1 x15_1).f0), .int .i64 ((rd_T39 l0_1 x15_1).f1)] 39 (0, 0)) (uB_ BK275.out) hb)
               have n3_ := Aside0.mk (qao (hB2_ GE272.out GE275.out) hb)
               have n4_ := Aside0.mk (hbox)
               have n5_ := Aside0.mk ((by rw [hg]; exact (qap (hB2_ GE272.out GE275.out)) : w.heap.size ≤ gb282))
               have n6_ := Aside0.mk ((by rw [hg]; exact (qap (hB2_ GE272.out GE275.out)) : w.heap.size ≤ gb282))
               have n7_ := Aside0.mk ((by rw [hg]; exact Nat.ne_of_lt (blk_lt (g := gb272) (o := .cells #[.int .i64 a0_0, .slice (some ad274) l0_1.length c0_1] 30 (0, 0)) (uB_ BK272.out)) : gb272 ≠ gb282))
               have n8_ := Aside0.mk ((by rw [hg]; exact Nat.ne_of_gt (blk_lt (g := gb272) (o := .cells #[.int .i64 a0_0, .slice (some ad274) l0_1.length c0_1] 30 (0, 0)) (uB_ BK272.out)) : gb282 ≠ gb272))
               have n9_ := Aside0.mk ((by rw [hg]; exact Nat.ne_of_lt (blk_lt (g := gb275) (o := .cells #[.int .i64 ((rd_T39 l0_1 x15_1).f0), .int .i64 ((rd_T39 l0_1 x15_1).f1)] 39 (0, 0)) (uB_ BK275.out)) : gb275 ≠ gb282))
               have n10_ := Aside0.mk ((by rw [hg]; exact Nat.ne_of_gt (blk_lt (g := gb275) (o := .cells #[.int .i64 ((rd_T39 l0_1 x15_1).f0), .int .i64 ((rd_T39 l0_1 x15_1).f1)] 39 (0, 0)) (uB_ BK275.out)) : gb282 ≠ gb275))
               clear HO281
               clear BK272
               clear BK275
               clear HB
               have HO281 := n0_
               have BK272 := n1_
               have BK275 := n2_
               have HB := n3_
               have BK282 := n4_
               have GW282 := n5_
               have GE282 := n6_
               have NB272_282 := n7_
               have NB282_272 := n8_
               have NB275_282 := n9_
               have NB282_275 := n10_
               clear n0_ n1_ n2_ n3_ n4_ n5_ n6_ n7_ n8_ n9_ n10_
               clear hb hbox hg
               refine hK.out _ _ ⟨(qaa BK272.out 0).trans rfl, (qaa BK272.out 1).trans rfl⟩ (fun hHeld => ?_)
               clear hK K
               refine norm_ (a' := ?_) ?_ ?_
               rotate_left
               ·show Act.put _ (some 7) _ = _
                simp only [Act.put, sP_, qai, qaj]
                rfl
               exact norm_ (by simp only [putAll, Act.put, sP_]) (hCont (.slice Ao66 t276.length co66, .slice Ao68 t279.length co68, gb282) _ ⟨hHeld, (uR_ HO281.out), (uB_ BK272.out), (uB_ BK275.out), (uB_ BK282.out), GW282.out, GE282.out, NB272_282.out, NB282_272.out, NB275_282.out, NB282_275.out, (hB3_ GE272.out GE275.out GE282.out)⟩)
              ·skip
               refine box_step ?hg (N := 7) ?hd (cs := #[.int .i64 0, .slice none 0 0]) (t := 30) ?hr ?_; (case hd => rfl); (case hg => rfl); (case hr => first | (go_simp; done) | (go_simp; rfl))
               intro gb282 hg w66 hbox hb
               have n0_ := Aside0.mk (Kd.R_below (uR_ HO278.out) hb)
               have n1_ := Aside0.mk (qaq (g := gb272) (o := .cells #[.int .i64 a0_0, .slice (some ad274) l0_1.length c0_1] 30 (0, 0)) (uB_ BK272.out) hb)
               have n2_ := Aside0.mk (qaq (g := gb275) (o := .cells #[.int .i64 ((rd_T39 l0_1 x15_1).f0), .int .i64 ((rd_T39 l0_1 x15_1).f1)] 39 (0, 0)) (uB_ BK275.out) hb)
               have n3_ := Aside0.mk (qao (hB2_ GE272.out GE275.out) hb)
               have n4_ := Aside0.mk (hbox)
               have n5_ := Aside0.mk ((by rw [hg]; exact (qap (hB2_ GE272.out GE275.out)) : w.heap.size ≤ gb282))
               have n6_ := Aside0.mk ((by rw [hg]; exact (qap (hB2_ GE272.out GE275.out)) : w.heap.size ≤ gb282))
               have n7_ := Aside0.mk ((by rw [hg]; exact Nat.ne_of_lt (blk_lt (g := gb272) (o := .cells #[.int .i64 a0_0, .slice (some ad274) l0_1.length c0_1] 30 (0, 0)) (uB_ BK272.out)) : gb272 ≠ gb282))
               have n8_ := Aside0.mk ((by rw [hg]; exact Nat.ne_of_gt (blk_lt (g := gb272) (o := .cells #[.int .i64 a0_0, .slice (some ad274) l0_1.length c0_1] 30 (0, 0)) (uB_ BK272.out)) : gb282 ≠ gb272))
               have n9_ := Aside0.mk ((by rw [hg]; exact Nat.ne_of_lt (blk_lt (g := gb275) (o := .cells #[.int .i64 ((rd_T39 l0_1 x15_1).f0), .int .i64 ((rd_T39 l0_1 x15_1).f1)] 39 (0, 0)) (uB_ BK275.out)) : gb275 ≠ gb282))
               have n10_ := Aside0.mk ((by rw [hg]; exact Nat.ne_of_gt (blk_lt (g := gb275) (o := .cells #[.int .i64 ((rd_T39 l0_1 x15_1).f0), .int .i64 ((rd_T39 l0_1 x15_1).f1)] 39 (0, 0)) (uB_ BK275.out)) : gb282 ≠ gb275))
               clear HO278
               clear BK272
               clear BK275
               clear HB
               have HO278 := n0_
               have BK272 := n1_
               have BK275 := n2_
               have HB := n3_
               have BK282 := n4_
               have GW282 := n5_
               have GE282 := n6_
               have NB272_282 := n7_
               have NB282_272 := n8_
               have NB275_282 := n9_
               have NB282_275 := n10_
               clear n0_ n1_ n2_ n3_ n4_ n5_ n6_ n7_ n8_ n9_ n10_
               clear hb hbox hg
               obtain ⟨Ao67, co67, eo67⟩ := Kd.R_slice HO278.out
               (first | subst eo67 | (injection eo67 with f1_ f2_ f3_; have f4_ := f1_.symm; have f5_ := f3_.symm; clear f1_ f2_ f3_; subst f4_; subst f5_))
               refine hK.out _ _ ⟨(qaa BK272.out 0).trans rfl, (qaa BK272.out 1).trans rfl⟩ (fun hHeld => ?_)
               clear hK K
               refine norm_ (a' := ?_) ?_ ?_
               rotate_left
               ·show Act.put _ (some 7) _ = _
                simp only [Act.put, sP_, qai, qaj]
                rfl
               refine one_ (i := 8) (N := some 28) #[tT,tT,tT,tT,tT,tT,tT,tT,tT,fF,tT,fF] rfl rfl (one_of HT_.out (by kernel_rfl)) (by decide) (fun K hK => ?_)
               refine goes_ Tryd.func15 (by kernel_rfl) rfl #[.slice Ao67 t276.length co67, .int .i64 x15_1, .int .i64 (wrap64 (x15_1 + 1))] (by rfl) rfl rfl mT_ ?_
               with_reducible refine (impl_Pair_15.calls (fun k_ => some k_ = (.slice Ao67 t276.length co67 : Value).ownBlock) (.slice Ao67 t276.length co67) t276 x15_1 (wrap64 (x15_1 + 1)) t279 w _ ?side1 ?side2 A12.out).mono ?_
               (case side1 => repeat (first | (with_reducible first | exact HB.out | apply qal | apply qac | apply qaf | refine qag ?_ GE272.out | refine qag ?_ GE275.out | refine qag ?_ GE282.out) | exact HB.out))
               (case side2 => exact Kd.R_tight rfl HO278.out)
               rintro e w68 ⟨v280, rfl, ho0, hb, hkp⟩
               refine ⟨_, rfl, ?_⟩
               have n0_ := Aside0.mk (blk_kept (uB_ BK272.out) hkp (fun hs_ => (fun e_ => (Kd.R_ne HO278.out BK272.out (by decide)) e_) hs_))
               have n1_ := Aside0.mk (blk_kept (uB_ BK275.out) hkp (fun hs_ => (fun e_ => (Kd.R_away HO278.out (fun _ hk => hk.2)) e_) hs_))
               have n2_ := Aside0.mk (blk_kept (uB_ BK282.out) hkp (fun hs_ => (fun e_ => (Kd.R_ne HO278.out BK282.out (by decide)) e_) hs_))
               have n3_ := Aside0.mk (Kd.R_mono (ok' := fun k_ => k_ ≠ gb275) ho0 (fun k_ hk_ => Or.elim hk_ (fun hs_ => fun e_ => (Kd.R_away HO278.out (fun _ hk => hk.2)) (by rw [← e_]; exact hs_)) (fun hn_ => (Kd.freshB (g := gb275) (o := .cells #[.int .i64 ((rd_T39 l0_1 x15_1).f0), .int .i64 ((rd_T39 l0_1 x15_1).f1)] 39 (0, 0)) (uB_ BK275.out) k_ hn_))))
               have n4_ := Aside0.mk (hb)
               clear BK272
               clear BK275
               clear BK282
               clear HB
               clear HO278
               have BK272 := n0_
               have BK275 := n1_
               have BK282 := n2_
               have HO281 := n3_
               have HB := n4_
               clear n0_ n1_ n2_ n3_ n4_
               (try clear hb)
               (try clear hkp)
               (try clear ho0)
               obtain ⟨Ao69, co69, eo69⟩ := Kd.R_slice HO281.out
               (first | subst eo69 | (injection eo69 with f1_ f2_ f3_; have f4_ := f1_.symm; have f5_ := f3_.symm; clear f1_ f2_ f3_; subst f4_; subst f5_))
               refine hK.out _ _ ⟨(qaa BK272.out 0).trans rfl, (qaa BK272.out 1).trans rfl⟩ (fun hHeld => ?_)
               clear hK K
               refine norm_ (a' := ?_) ?_ ?_
               rotate_left
               ·show Act.put _ (some 28) _ = _
                simp only [Act.put, sP_, qai, qaj]
                rfl
               refine qan (i := 9) (N := some 29) (v := ?_) (a' := ?_) #[tT,tT,tT,tT,tT,tT,tT,tT,tT,tT,tT,fF] rfl rfl (aO_ HT_.out) (fun _ _ _ h => h) (.inl ⟨by rfl, ?_⟩) ?_ ?_
               rotate_left
               ·intro w'
                go_simp
                with_reducible rfl
               rotate_left
               ·simp only [Act.put, sP_, qai, qaj]
                rfl
               exact norm_ (by simp only [putAll, Act.put, sP_]) (hCont (.slice Ao67 t276.length co67, .slice Ao69 t279.length co69, gb282) _ ⟨hHeld, (uR_ HO281.out), (uB_ BK272.out), (uB_ BK275.out), (uB_ BK282.out), GW282.out, GE282.out, NB272_282.out, NB282_272.out, NB275_282.out, NB282_275.out, (hB3_ GE272.out GE275.out GE282.out)⟩)
             ·skip
              refine box_step ?hg (N := 7) ?hd (cs := #[.int .i64 0, .slice none 0 0]) (t := 30) ?hr ?_; (case hd => rfl); (case hg => rfl); (case hr => first | (go_simp; done) | (go_simp; rfl))
              intro gb282 hg w65 hbox hb
              have n0_ := Aside0.mk (qaq (g := gb272) (o := .cells #[.int .i64 a0_0, .slice (some ad274) l0_1.length c0_1] 30 (0, 0)) (uB_ BK272.out) hb)
              have n1_ := Aside0.mk (qaq (g := gb275) (o := .cells #[.int .i64 ((rd_T39 l0_1 x15_1).f0), .int .i64 ((rd_T39 l0_1 x15_1).f1)] 39 (0, 0)) (uB_ BK275.out) hb)
              have n2_ := Aside0.mk (qao (hB2_ GE272.out GE275.out) hb)
              have n3_ := Aside0.mk (hbox)
              have n4_ := Aside0.mk ((by rw [hg]; exact (qap (hB2_ GE272.out GE275.out)) : w.heap.size ≤ gb282))
              have n5_ := Aside0.mk ((by rw [hg]; exact (qap (hB2_ GE272.out GE275.out)) : w.heap.size ≤ gb282))
              have n6_ := Aside0.mk ((by rw [hg]; exact Nat.ne_of_lt (blk_lt (g := gb272) (o := .cells #[.int .i64 a0_0, .slice (some ad274) l0_1.length c0_1] 30 (0, 0)) (uB_ BK272.out)) : gb272 ≠ gb282))
              have n7_ := Aside0.mk ((by rw [hg]; exact Nat.ne_of_gt (blk_lt (g := gb272) (o := .cells #[.int .i64 a0_0, .slice (some ad274) l0_1.length c0_1] 30 (0, 0)) (uB_ BK272.out)) : gb282 ≠ gb272))
              have n8_ := Aside0.mk ((by rw [hg]; exact Nat.ne_of_lt (blk_lt (g := gb275) (o := .cells #[.int .i64 ((rd_T39 l0_1 x15_1).f0), .int .i64 ((rd_T39 l0_1 x15_1).f1)] 39 (0, 0)) (uB_ BK275.out)) : gb275 ≠ gb282))
              have n9_ := Aside0.mk ((by rw [hg]; exact Nat.ne_of_gt (blk_lt (g := gb275) (o := .cells #[.int .i64 ((rd_T39 l0_1 x15_1).f0), .int .i64 ((rd_T39 l0_1 x15_1).f1)] 39 (0, 0)) (uB_ BK275.out)) : gb282 ≠ gb275))
              clear BK272
              clear BK275
              clear HB
              have BK272 := n0_
              have BK275 := n1_
              have HB := n2_
              have BK282 := n3_
              have GW282 := n4_
              have GE282 := n5_
              have NB272_282 := n6_
              have NB282_272 := n7_
              have NB275_282 := n8_
              have NB282_275 := n9_
              clear n0_ n1_ n2_ n3_ n4_ n5_ n6_ n7_ n8_ n9_
              clear hb hbox hg
              refine hK.out _ _ ⟨(qaa BK272.out 0).trans rfl, (qaa BK272.out 1).trans rfl⟩ (fun hHeld => ?_)
              clear hK K
              refine norm_ (a' := ?_) ?_ ?_
              rotate_left
              ·show Act.put _ (some 7) _ = _
               simp only [Act.put, sP_, qai, qaj]
               rfl
              refine one_ (i := 4) (N := some 24) #[tT,tT,tT,tT,tT,tT,tT,tT,fF,fF,tT,fF] rfl rfl (one_of HT_.out (by kernel_rfl)) (by decide) (fun K hK => ?_)
              refine goes_ Tryd.func16 (by kernel_rfl) rfl #[.slice (some ad274) l0_1.length c0_1] (by rfl) rfl rfl mT_ ?_
              with_reducible refine (impl_Pair_16.calls _ _ l0_1 t276 _ ?side1 ?side2 A11.out).mono ?_
              (case side1 => repeat (first | exact (Kd.C_below HR0_1.out HB.out) | (with_reducible refine Kd.C_alloc ?_ _) | (with_reducible refine Kd.C_drewN ?_ _) | (with_reducible refine Kd.C_drew ?_)))
              (case side2 => exact HC0_1.out)
              rintro e w66 ⟨v277, rfl, ho0, hb⟩
              refine ⟨_, rfl, ?_⟩
              have n0_ := Aside0.mk (Kd.R_lower (Kd.R_newB ho0 (g := gb275) (o := .cells #[.int .i64 ((rd_T39 l0_1 x15_1).f0), .int .i64 ((rd_T39 l0_1 x15_1).f1)] 39 (0, 0)) (uB_ BK275.out)) (qap (hB3_ GE272.out GE275.out GE282.out)))
              have n1_ := Aside0.mk (qaq (g := gb272) (o := .cells #[.int .i64 a0_0, .slice (some ad274) l0_1.length c0_1] 30 (0, 0)) (uB_ BK272.out) hb)
              have n2_ := Aside0.mk (qaq (g := gb275) (o := .cells #[.int .i64 ((rd_T39 l0_1 x15_1).f0), .int .i64 ((rd_T39 l0_1 x15_1).f1)] 39 (0, 0)) (uB_ BK275.out) hb)
              have n3_ := Aside0.mk (qaq (g := gb282) (o := .cells #[.int .i64 0, .slice none 0 0] 30 (0, 0)) (uB_ BK282.out) hb)
              have n4_ := Aside0.mk (qao (hB3_ GE272.out GE275.out GE282.out) hb)
              clear BK272
              clear BK275
              clear BK282
              clear HB
              have HO278 := n0_
              have BK272 := n1_
              have BK275 := n2_
              have BK282 := n3_
              have HB := n4_
              clear n0_ n1_ n2_ n3_ n4_
              (try clear hb)
              (try clear hb2)
              (try clear hk)
              (try clear hi)
              (try clear ho0)
              obtain ⟨Ao67, co67, eo67⟩ := Kd.R_slice HO278.out
              (first | subst eo67 | (injection eo67 with f1_ f2_ f3_; have f4_ := f1_.symm; have f5_ := f3_.symm; clear f1_ f2_ f3_; subst f4_; subst f5_))
              refine hK.out _ _ ⟨(qaa BK272.out 0).trans rfl, (qaa BK272.out 1).trans rfl⟩ (fun hHeld => ?_)
              clear hK K
              refine norm_ (a' := ?_) ?_ ?_
              rotate_left
              ·show Act.put _ (some 24) _ = _
               simp only [Act.put, sP_, qai, qaj]
               rfl
              refine one_ (i := 8) (N := some 28) #[tT,tT,tT,tT,tT,tT,tT,tT,tT,fF,tT,fF] rfl rfl (one_of HT_.out (by kernel_rfl)) (by decide) (fun K hK => ?_)
              refine goes_ Tryd.func15 (by kernel_rfl) rfl #[.slice Ao67 t276.length co67, .int .i64 x15_1, .int .i64 (wrap64 (x15_1 + 1))] (by rfl) rfl rfl mT_ ?_
              with_reducible refine (impl_Pair_15.calls (fun k_ => some k_ = (.slice Ao67 t276.length co67 : Value).ownBlock) (.slice Ao67 t276.length co67) t276 x15_1 (wrap64 (x15_1 + 1)) t279 w _ ?side1 ?side2 A12.out).mono ?_
              (case side1 => repeat (first | (with_reducible first | exact HB.out | apply qal | apply qac | apply qaf | refine qag ?_ GE272.out | refine qag ?_ GE275.out | refine qag ?_ GE282.out) | exact HB.out))
              (case side2 => exact Kd.R_tight rfl HO278.out)
              rintro e w68 ⟨v280, rfl, ho0, hb, hkp⟩
              refine ⟨_, rfl, ?_⟩
              have n0_ := Aside0.mk (blk_kept (uB_ BK272.out) hkp (fun hs_ => (fun e_ => (Kd.R_ne HO278.out BK272.out (by decide)) e_) hs_))
              have n1_ := Aside0.mk (blk_kept (uB_ BK275.out) hkp (fun hs_ => (fun e_ => (Kd.R_away HO278.out (fun _ hk => hk.2)) e_) hs_))
              have n2_ := Aside0.mk (blk_kept (uB_ BK282.out) hkp (fun hs_ => (fun e_ => (Kd.R_ne HO278.out BK282.out (by decide)) e_) hs_))
              have n3_ := Aside0.mk (Kd.R_mono (ok' := fun k_ => k_ ≠ gb275) ho0 (fun k_ hk_ => Or.elim hk_ (fun hs_ => fun e_ => (Kd.R_away HO278.out (fun _ hk => hk.2)) (by rw [← e_]; exact hs_)) (fun hn_ => (Kd.freshB (g := gb275) (o := .cells #[.int .i64 ((rd_T39 l0_1 x15_1).f0), .int .i64 ((rd_T39 l0_1 x15_1).f1)] 39 (0, 0)) (uB_ BK275.out) k_ hn_))))
              have n4_ := Aside0.mk (hb)
              clear BK272
              clear BK275
              clear BK282
              clear HB
              clear HO278
              have BK272 := n0_
              have BK275 := n1_
              have BK282 := n2_
              have HO281 := n3_
              have HB := n4_
              clear n0_ n1_ n2_ n3_ n4_
              (try clear hb)
              (try clear hkp)
              (try clear ho0)
              obtain ⟨Ao69, co69, eo69⟩ := Kd.R_slice HO281.out
              (first | subst eo69 | (injection eo69 with f1_ f2_ f3_; have f4_ := f1_.symm; have f5_ := f3_.symm; clear f1_ f2_ f3_; subst f4_; subst f5_))
              refine hK.out _ _ ⟨(qaa BK272.out 0).trans rfl, (qaa BK272.out 1).trans rfl⟩ (fun hHeld => ?_)
              clear hK K
              refine norm_ (a' := ?_) ?_ ?_
              rotate_left
              ·show Act.put _ (some 28) _ = _
               simp only [Act.put, sP_, qai, qaj]
               rfl
              refine qan (i := 9) (N := some 29) (v := ?_) (a' := ?_) #[tT,tT,tT,tT,tT,tT,tT,tT,tT,tT,tT,fF] rfl rfl (aO_ HT_.out) (fun _ _ _ h => h) (.inl ⟨by rfl, ?_⟩) ?_ ?_
              rotate_left
              ·intro w'
               go_simp
               with_reducible rfl
              rotate_left
              ·simp only [Act.put, sP_, qai, qaj]
               rfl
              exact norm_ (by simp only [putAll, Act.put, sP_]) (hCont (.slice Ao67 t276.length co67, .slice Ao69 t279.length co69, gb282) _ ⟨hHeld, (uR_ HO281.out), (uB_ BK272.out), (uB_ BK275.out), (uB_ BK282.out), GW282.out, GE282.out, NB272_282.out, NB282_272.out, NB275_282.out, NB282_275.out, (hB3_ GE272.out GE275.out GE282.out)⟩)
            rintro ⟨v277, v280, gb282⟩ w70 ⟨hS_, h0_, h1_, h2_, h3_, h4_, h5_, h6_, h7_, h8_, h9_, h10_⟩
            have n0_ : Aside0 (Kd.R k39 39 w70 w.heap.size (fun k_ => k_ ≠ gb275) v280 t279) := ⟨h0_⟩
            have n1_ : Aside0 (w70.heap[gb272]? = some (.cells #[.int .i64 a0_0, .slice (some ad274) l0_1.length c0_1] 30 (0, 0))) := ⟨h1_⟩
            have n2_ : Aside0 (w70.heap[gb275]? = some (.cells #[.int .i64 ((rd_T39 l0_1 x15_1).f0), .int .i64 ((rd_T39 l0_1 x15_1).f1)] 39 (0, 0))) := ⟨h2_⟩
            have n3_ : Aside0 (w70.heap[gb282]? = some (.cells #[.int .i64 0, .slice none 0 0] 30 (0, 0))) := ⟨h3_⟩
            have n4_ : Aside0 (w.heap.size ≤ gb282) := ⟨h4_⟩
            have n5_ : Aside0 (w.heap.size ≤ gb282) := ⟨h5_⟩
            have n6_ : Aside0 (gb272 ≠ gb282) := ⟨h6_⟩
            have n7_ : Aside0 (gb282 ≠ gb272) := ⟨h7_⟩
            have n8_ : Aside0 (gb275 ≠ gb282) := ⟨h8_⟩
            have n9_ : Aside0 (gb282 ≠ gb275) := ⟨h9_⟩
            have n10_ : Aside0 (Below w.heap.size w w70) := ⟨h10_⟩
            clear BK272
            clear BK275
            clear HB
            clear h0_ h1_ h2_ h3_ h4_ h5_ h6_ h7_ h8_ h9_ h10_
            have HO281 := n0_
            have BK272 := n1_
            have BK275 := n2_
            have BK282 := n3_
            have GW282 := n4_
            have GE282 := n5_
            have NB272_282 := n6_
            have NB282_272 := n7_
            have NB275_282 := n8_
            have NB282_275 := n9_
            have HB := n10_
            clear n0_ n1_ n2_ n3_ n4_ n5_ n6_ n7_ n8_ n9_ n10_
            have hHeld : w70.cell? ⟨gb272, 0, none⟩ = some (.int .i64 a0_0) ∧ w70.cell? ⟨gb272, 1, none⟩ = some (.slice (some ad274) l0_1.length c0_1) := hS_
            obtain ⟨Ao71, co71, eo71⟩ := Kd.R_slice HO281.out
            (first | subst eo71 | (injection eo71 with f1_ f2_ f3_; have f4_ := f1_.symm; have f5_ := f3_.symm; clear f1_ f2_ f3_; subst f4_; subst f5_))
            refine norm_ (a' := ?_) ?_ ?_
            rotate_left
            ·simp only [putAll, Act.put, sP_]
             rfl
            refine one_ (i := 11) (N := none) #[tT,tT,tT,tT,tT,tT,tT,tT,tT,tT,tT,tT] rfl rfl (one_of HT_.out (by kernel_rfl)) (by decide) (fun K hK => ?_)
            have hs72 : w70.cell? ⟨gb282, 0, none⟩ = some (.int .i64 0) := (qaa BK282.out 0).trans rfl
            have hfs72 := qam BK282.out 0
            have hns72_0 := NB272_282.out
            have hns72_1 := NB275_282.out
            have hms72_0 := NB282_272.out
            have hms72_1 := NB282_275.out
            have hs73 : w70.cell? ⟨gb282, 1, none⟩ = some (.slice none 0 0) := (qaa BK282.out 1).trans rfl
            have hfs73 := qam BK282.out 1
            have hns73_0 := NB272_282.out
            have hns73_1 := NB275_282.out
            have hms73_0 := NB282_272.out
            have hms73_1 := NB282_275.out
            refine skip_ (w1 := ?_) (by rfl) rfl ?_ ?_
            rotate_left
            ·go_simp
             rfl
            refine hK.out _ _ ⟨((cell_far (p := ⟨gb282, _, none⟩) NB272_282.out _).trans (((cell_far (p := ⟨gb282, _, none⟩) NB272_282.out _).trans (hHeld.1)))), ((cell_far (p := ⟨gb282, _, none⟩) NB272_282.out _).trans (((cell_far (p := ⟨gb282, _, none⟩) NB272_282.out _).trans (hHeld.2))))⟩ (fun hHeld => ?_)
            clear hK K
            refine done_ (done_of HT_.out (by kernel_rfl)) ?_
            try go_wp2
            have n0_ : Aside0 (Kd.R k39 39 ((w70.setCell ⟨gb282, 0, none⟩ (.int .i64 a0_0)).setCell ⟨gb282, 1, none⟩ (.slice Ao71 t279.length co71)) w.heap.size (fun k_ => k_ ≠ gb275) (.slice Ao71 t279.length co71) t279) := ⟨by (with_reducible repeat (first | apply Kd.R_alloc | apply Kd.R_drewN | apply Kd.R_drew)); exact Kd.R_mono (Kd.R_far (p := ⟨gb282, 1, none⟩) (Kd.R_far (p := ⟨gb282, 0, none⟩) (Kd.R_types HO281.out BK282.out (by decide)) (fun _ hk => hk.2) (.int .i64 a0_0)) (fun _ hk => hk.2) (.slice Ao71 t279.length co71)) (fun _ hk => hk.1)⟩
            have n1_ : Aside0 (((w70.setCell ⟨gb282, 0, none⟩ (.int .i64 a0_0)).setCell ⟨gb282, 1, none⟩ (.slice Ao71 t279.length co71)).heap[gb272]? = some (.cells #[.int .i64 a0_0, .slice (some ad274) l0_1.length c0_1] 30 (0, 0))) := ⟨by (with_reducible repeat (first | refine qad ?_ _ | refine qab ?_ | refine qae ?_ _)); refine blk_far ?_ NB272_282.out _; (with_reducible repeat (first | refine qad ?_ _ | refine qab ?_ | refine qae ?_ _)); refine blk_far ?_ NB272_282.out _; (with_reducible repeat (first | refine qad ?_ _ | refine qab ?_ | refine qae ?_ _)); exact BK272.out⟩
            have n2_ : Aside0 (((w70.setCell ⟨gb282, 0, none⟩ (.int .i64 a0_0)).setCell ⟨gb282, 1, none⟩ (.slice Ao71 t279.length co71)).heap[gb275]? = some (.cells #[.int .i64 ((rd_T39 l0_1 x15_1).f0), .int .i64 ((rd_T39 l0_1 x15_1).f1)] 39 (0, 0))) := ⟨by (with_reducible repeat (first | refine qad ?_ _ | refine qab ?_ | refine qae ?_ _)); refine blk_far ?_ NB275_282.out _; (with_reducible repeat (first | refine qad ?_ _ | refine qab ?_ | refine qae ?_ _)); refine blk_far ?_ NB275_282.out _; (with_reducible repeat (first | refine qad ?_ _ | refine qab ?_ | refine qae ?_ _)); exact BK275.out⟩
            have n3_ : Aside0 (((w70.setCell ⟨gb282, 0, none⟩ (.int .i64 a0_0)).setCell ⟨gb282, 1, none⟩ (.slice Ao71 t279.length co71)).heap[gb282]? = some (.cells #[.int .i64 a0_0, .slice Ao71 t279.length co71] 30 (0, 0))) := ⟨by (with_reducible repeat (first | refine qad ?_ _ | refine qab ?_ | refine qae ?_ _)); refine blk_put (cs := #[.int .i64 a0_0, .slice none 0 0]) ?_ 1 _ rfl; (with_reducible repeat (first | refine qad ?_ _ | refine qab ?_ | refine qae ?_ _)); refine blk_put (cs := #[.int .i64 0, .slice none 0 0]) ?_ 0 _ rfl; (with_reducible repeat (first | refine qad ?_ _ | refine qab ?_ | refine qae ?_ _)); exact BK282.out⟩
            have n4_ : Aside0 (Below w.heap.size w ((w70.setCell ⟨gb282, 0, none⟩ (.int .i64 a0_0)).setCell ⟨gb282, 1, none⟩ (.slice Ao71 t279.length co71))) := ⟨by repeat (first | (with_reducible first | exact HB.out | apply qal | apply qac | apply qaf | refine qag ?_ GE272.out | refine qag ?_ GE275.out | refine qag ?_ GE282.out) | exact HB.out)⟩
            (try clear HO281)
            (try clear BK272)
            (try clear BK275)
            (try clear BK282)
            (try clear HB)
            generalize ((w70.setCell ⟨gb282, 0, none⟩ (.int .i64 a0_0)).setCell ⟨gb282, 1, none⟩ (.slice Ao71 t279.length co71)) = w74 at n0_ n1_ n2_ n3_ n4_ ⊢
            have HO281 := n0_
            have BK272 := n1_
            have BK275 := n2_
            have BK282 := n3_
            have HB := n4_
            clear n0_ n1_ n2_ n3_ n4_
            have n0_ := Aside0.mk (Kd.R_drew HO281.out)
            have n1_ := Aside0.mk (qab BK272.out)
            have n2_ := Aside0.mk (qab BK275.out)
            have n3_ := Aside0.mk (qab BK282.out)
            have n4_ := Aside0.mk (qaf HB.out)
            clear HO281
            clear BK272
            clear BK275
            clear BK282
            clear HB
            have HO281 := n0_
            have BK272 := n1_
            have BK275 := n2_
            have BK282 := n3_
            have HB := n4_
            clear n0_ n1_ n2_ n3_ n4_
            refine start_ (n := 10) (S := fun w' => w'.cell? ⟨gb282, 0, none⟩ = some (.int .i64 a0_0) ∧ w'.cell? ⟨gb282, 1, none⟩ = some (.slice Ao71 t279.length co71) ∧ w'.cell? ⟨gb275, 0, none⟩ = some (.int .i64 ((rd_T39 l0_1 x15_1).f0)) ∧ w'.cell? ⟨gb275, 1, none⟩ = some (.int .i64 ((rd_T39 l0_1 x15_1).f1))) (ds := []) #[fF,fF,fF,fF,fF,fF,fF,fF,fF,fF] (by kernel_rfl) rfl rfl ⟨(qaa BK282.out 0).trans rfl, (qaa BK282.out 1).trans rfl, (qaa BK275.out 0).trans rfl, (qaa BK275.out 1).trans rfl⟩ (fun hHeld => ?_); refine with_tabW impl_ShortestRound.tab8 impl_ShortestRound.bits8 (fun HT_ HW_ => ?_)
            generalize w74.drew = w75 at HO281 BK272 BK275 BK282 HB hHeld ⊢
            refine qan (i := 2) (N := some 32) (v := ?_) (a' := ?_) #[fF,fF,tT,fF,fF,fF,fF,fF,fF,fF] rfl rfl (aO_ HT_.out) (fun _ _ _ h => h) (.inl ⟨by rfl, ?_⟩) ?_ ?_
            rotate_left
            ·intro w'
             go_simp
             with_reducible rfl
            rotate_left
            ·simp only [Act.put, sP_, qai, qaj]
             rfl
            refine qan (i := 5) (N := some 35) (v := ?_) (a' := ?_) #[fF,fF,tT,fF,fF,tT,fF,fF,fF,fF] rfl rfl (aO_ HT_.out) (fun _ _ _ h => h) (.inl ⟨by rfl, ?_⟩) ?_ ?_
            rotate_left
            ·intro w'
             go_simp
             with_reducible rfl
            rotate_left
            ·simp only [Act.put, sP_, qai, qaj]
             rfl
            refine take_ (i := 0) (N := some 30) (v := ?_) (a' := ?_) #[tT,fF,tT,fF,fF,tT,fF,fF,fF,fF] rfl rfl (qar HT_.out HW_.out (by kernel_rfl)) (fun _ _ _ h => h) (Or.inl ⟨by rfl, ?_⟩) hHeld ?_ ?_
            rotate_left
            ·rintro w' ⟨s0, s1, s2, s3⟩
             go_simp
             with_reducible rfl
            rotate_left
            ·simp only [Act.put, sP_, qai, qaj]
             rfl
            refine take_ (i := 3) (N := some 33) (v := ?_) (a' := ?_) #[tT,fF,tT,tT,fF,tT,fF,fF,fF,fF] rfl rfl (qar HT_.out HW_.out (by kernel_rfl)) (fun _ _ _ h => h) (Or.inl ⟨by rfl, ?_⟩) hHeld ?_ ?_
            rotate_left
            ·rintro w' ⟨s0, s1, s2, s3⟩
             go_simp
             with_reducible rfl
            rotate_left
            ·simp only [Act.put, sP_, qai, qaj]
             rfl
            refine take_ (i := 6) (N := some 36) (v := ?_) (a' := ?_) #[tT,fF,tT,tT,fF,tT,tT,fF,fF,fF] rfl rfl (qar HT_.out HW_.out (by kernel_rfl)) (fun _ _ _ h => h) (Or.inl ⟨by rfl, ?_⟩) hHeld ?_ ?_
            rotate_left
            ·rintro w' ⟨s0, s1, s2, s3⟩
             go_simp
             with_reducible rfl
            rotate_left
            ·simp only [Act.put, sP_, qai, qaj]
             rfl
            refine one_ (i := 1) (N := some 31) #[tT,tT,tT,tT,fF,tT,tT,fF,fF,fF] rfl rfl (one_of HT_.out (by kernel_rfl)) (by decide) (fun K hK => ?_)
            refine goes_ Tryd.func17 (by kernel_rfl) rfl #[.agg #[.int .i64 a0_0, .slice Ao71 t279.length co71]] (by rfl) rfl rfl mT_ ?_
            with_reducible refine (impl_Party_table.calls k1 a0_0 _ _ t279 t283 _ ?side1 ?side2 A13.out).mono ?_
            (case side1 => repeat (first | exact (Kd.R_reads' HO281.out).2.2 | (with_reducible refine Kd.C_alloc ?_ _) | (with_reducible refine Kd.C_drewN ?_ _) | (with_reducible refine Kd.C_drew ?_)))
            (case side2 => exact (Kd.R_reads' HO281.out).2.1)
            rintro e w76 ⟨v284, rfl, ho0, hb⟩
            refine ⟨_, rfl, ?_⟩
            have n0_ := Aside0.mk (Kd.R_below (uR_ HO281.out) hb)
            have n1_ := Aside0.mk (Kd.R_lower ho0 (qap (hB3_ GE272.out GE275.out GE282.out)))
            have n2_ := Aside0.mk (qaq (g := gb272) (o := .cells #[.int .i64 a0_0, .slice (some ad274) l0_1.length c0_1] 30 (0, 0)) (uB_ BK272.out) hb)
            have n3_ := Aside0.mk (qaq (g := gb275) (o := .cells #[.int .i64 ((rd_T39 l0_1 x15_1).f0), .int .i64 ((rd_T39 l0_1 x15_1).f1)] 39 (0, 0)) (uB_ BK275.out) hb)
            have n4_ := Aside0.mk (qaq (g := gb282) (o := .cells #[.int .i64 a0_0, .slice Ao71 t279.length co71] 30 (0, 0)) (uB_ BK282.out) hb)
            have n5_ := Aside0.mk (qao (hB3_ GE272.out GE275.out GE282.out) hb)
            clear HO281
            clear BK272
            clear BK275
            clear BK282
            clear HB
            have HO281 := n0_
            have HO285 := n1_
            have BK272 := n2_
            have BK275 := n3_
            have BK282 := n4_
            have HB := n5_
            clear n0_ n1_ n2_ n3_ n4_ n5_
            (try clear hb)
            (try clear hb2)
            (try clear hk)
            (try clear hi)
            (try clear ho0)
            obtain ⟨Ao77, co77, eo77⟩ := Kd.R_slice HO285.out
            (first | subst eo77 | (injection eo77 with f1_ f2_ f3_; have f4_ := f1_.symm; have f5_ := f3_.symm; clear f1_ f2_ f3_; subst f4_; subst f5_))
            refine hK.out _ _ ⟨(qaa BK282.out 0).trans rfl, (qaa BK282.out 1).trans rfl, (qaa BK275.out 0).trans rfl, (qaa BK275.out 1).trans rfl⟩ (fun hHeld => ?_)
            clear hK K
            refine norm_ (a' := ?_) ?_ ?_
            rotate_left
            ·show Act.put _ (some 31) _ = _
             simp only [Act.put, sP_, qai, qaj]
             rfl
            refine one_ (i := 4) (N := some 34) #[tT,tT,tT,tT,tT,tT,tT,fF,fF,fF] rfl rfl (one_of HT_.out (by kernel_rfl)) (by decide) (fun K hK => ?_)
            refine goes_ Tryd.func18 (by kernel_rfl) rfl #[.slice Ao77 t283.length co77, .int .i64 ((rd_T39 l0_1 x15_1).f0)] (by rfl) rfl rfl mT_ ?_
            with_reducible refine (impl_table_distances.calls k1 _ _ t283 ((rd_T39 l0_1 x15_1).f0) t286 _ ?sideG ?side1 ?side2 A14.out).mono ?_; (case sideG => first | exact HG.out | exact Tab.below HG.out hB_)
            (case side1 => repeat (first | exact (Kd.R_reads' HO285.out).2.2 | (with_reducible refine Kd.C_alloc ?_ _) | (with_reducible refine Kd.C_drewN ?_ _) | (with_reducible refine Kd.C_drew ?_)))
            (case side2 => exact (Kd.R_reads' HO285.out).2.1)
            rintro e w78 ⟨v287, rfl, ho0, hb⟩
            refine ⟨_, rfl, ?_⟩
            have n0_ := Aside0.mk (Kd.R_below (uR_ HO281.out) hb)
            have n1_ := Aside0.mk (Kd.R_below (uR_ HO285.out) hb)
            have n2_ := Aside0.mk (Kd.R_lower ho0 (qap (hB3_ GE272.out GE275.out GE282.out)))
            have n3_ := Aside0.mk (qaq (g := gb272) (o := .cells #[.int .i64 a0_0, .slice (some ad274) l0_1.length c0_1] 30 (0, 0)) (uB_ BK272.out) hb)
            have n4_ := Aside0.mk (qaq (g := gb275) (o := .cells #[.int .i64 ((rd_T39 l0_1 x15_1).f0), .int .i64 ((rd_T39 l0_1 x15_1).f1)] 39 (0, 0)) (uB_ BK275.out) hb)
            have n5_ := Aside0.mk (qaq (g := gb282) (o := .cells #[.int .i64 a0_0, .slice Ao71 t279.length co71] 30 (0, 0)) (uB_ BK282.out) hb)
            have n6_ := Aside0.mk (qao (hB3_ GE272.out GE275.out GE282.out) hb)
            clear HO281
            clear HO285
            clear BK272
            clear BK275
            clear BK282
            clear HB
            have HO281 := n0_
            have HO285 := n1_
            have HO288 := n2_
            have BK272 := n3_
            have BK275 := n4_
            have BK282 := n5_
            have HB := n6_
            clear n0_ n1_ n2_ n3_ n4_ n5_ n6_
            (try clear hb)
            (try clear hb2)
            (try clear hk)
            (try clear hi)
            (try clear ho0)
            obtain ⟨Ao79, co79, eo79⟩ := Kd.R_slice HO288.out
            (first | subst eo79 | (injection eo79 with f1_ f2_ f3_; have f4_ := f1_.symm; have f5_ := f3_.symm; clear f1_ f2_ f3_; subst f4_; subst f5_))
            have p289 : 0 ≤ (((rd_T39 l0_1 x15_1).f1) : Int) := oD_
            have q289 : ((rd_T39 l0_1 x15_1).f1) < (t286.length : Int) := oD_
            obtain ⟨ad289, e289, hx289_0⟩ := Kd.at_int (Kd.R_reads' HO288.out).2.2 ((rd_T39 l0_1 x15_1).f1) p289 q289
            cases e289
            replace p289 := eq_true p289
            replace q289 := eq_true q289
            refine hK.out _ _ ⟨(qaa BK282.out 0).trans rfl, (qaa BK282.out 1).trans rfl, (qaa BK275.out 0).trans rfl, (qaa BK275.out 1).trans rfl⟩ (fun hHeld => ?_)
            clear hK K
            refine norm_ (a' := ?_) ?_ ?_
            rotate_left
            ·show Act.put _ (some 34) _ = _
             simp only [Act.put, sP_, qai, qaj]
             rfl
            refine qan (i := 7) (N := some 37) (v := ?_) (a' := ?_) #[tT,tT,tT,tT,tT,tT,tT,tT,fF,fF] rfl rfl (aO_ HT_.out) (fun _ _ _ h => h) (.inl ⟨by rfl, ?_⟩) ?_ ?_
            rotate_left
            ·intro w'
             go_simp
             with_reducible rfl
            rotate_left
            ·simp only [Act.put, sP_, qai, qaj]
             rfl
            refine one_ (i := 8) (N := some 38) #[tT,tT,tT,tT,tT,tT,tT,tT,tT,fF] rfl rfl (one_of HT_.out (by kernel_rfl)) (by decide) (fun K hK => ?_)
            refine event_step (v := .int .i64 (rd t286 ((rd_T39 l0_1 x15_1).f1))) (by rfl) (by go_simp; with_reducible rfl) ?_
            refine hK.out _ _ hHeld (fun hHeld => ?_)
            clear hK K
            refine norm_ (a' := ?_) ?_ ?_
            rotate_left
            ·show Act.put _ (some 38) _ = _
             simp only [Act.put, sP_, qai, qaj]
             rfl
            refine qan (i := 9) (N := some 8) (v := ?_) (a' := ?_) #[tT,tT,tT,tT,tT,tT,tT,tT,tT,tT] rfl rfl (aO_ HT_.out) (fun _ _ _ h => h) (.inl ⟨by rfl, ?_⟩) ?_ ?_
            rotate_left
            ·intro w'
             go_simp
             with_reducible rfl
            rotate_left
            ·simp only [Act.put, sP_, qai, qaj]
             rfl
            refine done_ (done_of HT_.out (by kernel_rfl)) ?_
            try go_wp2
            go_roundg k1
            case measure => have := HK1.out; omega
            case rel => exact ⟨(x4_1), (wrap64 (x15_1 + 1)), rS_, rS_, H', ⟨by have := HK1.out; omega⟩, ⟨by (with_reducible repeat (first | refine qad ?_ _ | refine qab ?_ | refine qae ?_ _)); exact BK272.out⟩, ⟨by repeat (first | (with_reducible first | exact HB.out | apply qal | apply qac | apply qaf | refine qag ?_ GE272.out | refine qag ?_ GE275.out | refine qag ?_ GE282.out) | exact HB.out)⟩⟩
         ·rw [if_neg c17] at H
          have c17b0 : decide (0 < (rd t286 ((rd_T39 l0_1 x15_1).f1))) = false := decide_eq_false c17
          clear c17
          have H' := Aside0.mk H
          clear H
          have p274 : 0 ≤ (x15_1 : Int) := oD_
          have q274 : x15_1 < (l0_1.length : Int) := oD_
          obtain ⟨ad274, e274, hx274_0, hx274_1⟩ := at_T39 HR0_1.out x15_1 p274 q274
          cases e274
          (try (replace hx274_0 := (HB.out.cell (World.block_lt_of_cell? w _ hx274_0)).trans hx274_0))
          (try (replace hx274_1 := (HB.out.cell (World.block_lt_of_cell? w _ hx274_1)).trans hx274_1))
          replace p274 := eq_true p274
          replace q274 := eq_true q274
          try go_wp2_with (first | ((with_reducible refine gate_dst (N := 6) rfl ?_); refine box_event ?hg (N := 6) ?hd (cs := #[.int .i64 0, .int .i64 0]) (t := 39) ?hr ?_; (case hd => rfl); (case hg => rfl); (case hr => first | (go_simp; done) | (go_simp; rfl)); intro gb275 hg w80 hbox hb; have n0_ := Aside0.mk (qaq (g := gb272) (o := .cells #[.int .i64 a0_0, .slice (some ad274) l0_1.length c0_1] 30 (0, 0)) (uB_ BK272.out) hb); have n1_ := Aside0.mk (qao (hB1_ GE272.out) hb); have n2_ := Aside0.mk (hbox); have n3_ := Aside0.mk ((by rw [hg]; exact (qap (hB1_ GE272.out)) : w.heap.size ≤ gb275)); have n4_ := n3_; have n5_ := Aside0.mk ((by rw [hg]; exact Nat.ne_of_lt (blk_lt (g := gb272) (o := .cells #[.int .i64 a0_0, .slice (some ad274) l0_1.length c0_1] 30 (0, 0)) (uB_ BK272.out)) : gb272 ≠ gb275)); have n6_ := Aside0.mk n5_.out.symm; clear BK272; clear HB; have BK272 := n0_; have HB := n1_; have BK275 := n2_; have GW275 := n3_; have GE275 := n4_; have NB272_275 := n5_; have NB275_272 := n6_; clear n0_ n1_ n2_ n3_ n4_ n5_ n6_; clear hb hbox hg; have hnb81 := NB275_272.out; have hnc81 := NB272_275.out; have hcz82_0 : w80.cell? ⟨gb275, 0, none⟩ = some (.int .i64 0) := (qaa BK275.out 0).trans rfl; have hcz82_1 : w80.cell? ⟨gb275, 1, none⟩ = some (.int .i64 0) := (qaa BK275.out 1).trans rfl; have hfz82_0 := qam BK275.out 0; have hfz82_1 := qam BK275.out 1))
          have n0_ : Aside0 (((w80.setCell ⟨gb275, 0, none⟩ (.int .i64 ((rd_T39 l0_1 x15_1).f0))).setCell ⟨gb275, 1, none⟩ (.int .i64 ((rd_T39 l0_1 x15_1).f1))).heap[gb272]? = some (.cells #[.int .i64 a0_0, .slice (some ad274) l0_1.length c0_1] 30 (0, 0))) := ⟨by (with_reducible repeat (first | refine qad ?_ _ | refine qab ?_ | refine qae ?_ _)); refine blk_far ?_ NB272_275.out _; (with_reducible repeat (first | refine qad ?_ _ | refine qab ?_ | refine qae ?_ _)); refine blk_far ?_ NB272_275.out _; (with_reducible repeat (first | refine qad ?_ _ | refine qab ?_ | refine qae ?_ _)); exact BK272.out⟩
          have n1_ : Aside0 (((w80.setCell ⟨gb275, 0, none⟩ (.int .i64 ((rd_T39 l0_1 x15_1).f0))).setCell ⟨gb275, 1, none⟩ (.int .i64 ((rd_T39 l0_1 x15_1).f1))).heap[gb275]? = some (.cells #[.int .i64 ((rd_T39 l0_1 x15_1).f0), .int .i64 ((rd_T39 l0_1 x15_1).f1)] 39 (0, 0))) := ⟨by (with_reducible repeat (first | refine qad ?_ _ | refine qab ?_ | refine qae ?_ _)); refine blk_put (cs := #[.int .i64 ((rd_T39 l0_1 x15_1).f0), .int .i64 0]) ?_ 1 _ rfl; (with_reducible repeat (first | refine qad ?_ _ | refine qab ?_ | refine qae ?_ _)); refine blk_put (cs := #[.int .i64 0, .int .i64 0]) ?_ 0 _ rfl; (with_reducible repeat (first | refine qad ?_ _ | refine qab ?_ | refine qae ?_ _)); exact BK275.out⟩
          have n2_ : Aside0 (Below w.heap.size w ((w80.setCell ⟨gb275, 0, none⟩ (.int .i64 ((rd_T39 l0_1 x15_1).f0))).setCell ⟨gb275, 1, none⟩ (.int .i64 ((rd_T39 l0_1 x15_1).f1)))) := ⟨by repeat (first | (with_reducible first | exact HB.out | apply qal | apply qac | apply qaf | refine qag ?_ GE272.out | refine qag ?_ GE275.out) | exact HB.out)⟩
          (try clear BK272)
          (try clear BK275)
          (try clear HB)
          generalize ((w80.setCell ⟨gb275, 0, none⟩ (.int .i64 ((rd_T39 l0_1 x15_1).f0))).setCell ⟨gb275, 1, none⟩ (.int .i64 ((rd_T39 l0_1 x15_1).f1))) = w83 at n0_ n1_ n2_ ⊢
          have BK272 := n0_
          have BK275 := n1_
          have HB := n2_
          clear n0_ n1_ n2_
          have n0_ := Aside0.mk (qab BK272.out)
          have n1_ := Aside0.mk (qab BK275.out)
          have n2_ := Aside0.mk (qaf HB.out)
          clear BK272
          clear BK275
          clear HB
          have BK272 := n0_
          have BK275 := n1_
          have HB := n2_
          clear n0_ n1_ n2_
          refine start_ (n := 12) (S := fun w' => w'.cell? ⟨gb272, 0, none⟩ = some (.int .i64 a0_0) ∧ w'.cell? ⟨gb272, 1, none⟩ = some (.slice (some ad274) l0_1.length c0_1)) (ds := []) #[fF,fF,fF,fF,fF,fF,fF,fF,fF,fF,fF,fF] (by kernel_rfl) rfl rfl ⟨(qaa BK272.out 0).trans rfl, (qaa BK272.out 1).trans rfl⟩ (fun hHeld => ?_); refine with_tabW impl_ShortestRound.tab7 impl_ShortestRound.bits7 (fun HT_ HW_ => ?_)
          generalize w83.drew = w84 at BK272 BK275 HB hHeld ⊢
          refine qan (i := 0) (N := some 20) (v := ?_) (a' := ?_) #[tT,fF,fF,fF,fF,fF,fF,fF,fF,fF,fF,fF] rfl rfl (aO_ HT_.out) (fun _ _ _ h => h) (.inl ⟨by rfl, ?_⟩) ?_ ?_
          rotate_left
          ·intro w'
           go_simp
           with_reducible rfl
          rotate_left
          ·simp only [Act.put, sP_, qai, qaj]
           rfl
          refine qan (i := 2) (N := some 22) (v := ?_) (a' := ?_) #[tT,fF,tT,fF,fF,fF,fF,fF,fF,fF,fF,fF] rfl rfl (aO_ HT_.out) (fun _ _ _ h => h) (.inl ⟨by rfl, ?_⟩) ?_ ?_
          rotate_left
          ·intro w'
           go_simp
           with_reducible rfl
          rotate_left
          ·simp only [Act.put, sP_, qai, qaj]
           rfl
          refine qan (i := 5) (N := some 25) (v := ?_) (a' := ?_) #[tT,fF,tT,fF,fF,tT,fF,fF,fF,fF,fF,fF] rfl rfl (aO_ HT_.out) (fun _ _ _ h => h) (.inl ⟨by rfl, ?_⟩) ?_ ?_
          rotate_left
          ·intro w'
           go_simp
           with_reducible rfl
          rotate_left
          ·simp only [Act.put, sP_, qai, qaj]
           rfl
          refine qan (i := 6) (N := some 26) (v := ?_) (a' := ?_) #[tT,fF,tT,fF,fF,tT,tT,fF,fF,fF,fF,fF] rfl rfl (aO_ HT_.out) (fun _ _ _ h => h) (.inl ⟨by rfl, ?_⟩) ?_ ?_
          rotate_left
          ·intro w'
           go_simp
           with_reducible rfl
          rotate_left
          ·simp only [Act.put, sP_, qai, qaj]
           rfl
          refine qan (i := 7) (N := some 27) (v := ?_) (a' := ?_) #[tT,fF,tT,fF,fF,tT,tT,tT,fF,fF,fF,fF] rfl rfl (aO_ HT_.out) (fun _ _ _ h => h) (.inl ⟨by rfl, ?_⟩) ?_ ?_
          rotate_left
          ·intro w'
           go_simp
           with_reducible rfl
          rotate_left
          ·simp only [Act.put, sP_, qai, qaj]
           rfl
          refine take_ (i := 1) (N := some 21) (v := ?_) (a' := ?_) #[tT,tT,tT,fF,fF,tT,tT,tT,fF,fF,fF,fF] rfl rfl (qar HT_.out HW_.out (by kernel_rfl)) (fun _ _ _ h => h) (Or.inl ⟨by rfl, ?_⟩) hHeld ?_ ?_
          rotate_left
          ·rintro w' ⟨s0, s1⟩
           go_simp
           with_reducible rfl
          rotate_left
          ·simp only [Act.put, sP_, qai, qaj]
           rfl
          refine take_ (i := 3) (N := some 23) (v := ?_) (a' := ?_) #[tT,tT,tT,tT,fF,tT,tT,tT,fF,fF,fF,fF] rfl rfl (qar HT_.out HW_.out (by kernel_rfl)) (fun _ _ _ h => h) (Or.inl ⟨by rfl, ?_⟩) hHeld ?_ ?_
          rotate_left
          ·rintro w' ⟨s0, s1⟩
           go_simp
           with_reducible rfl
          rotate_left
          ·simp only [Act.put, sP_, qai, qaj]
           rfl
          refine join_ (σ := Value × Value × Nat) 1 #[tT,tT,tT,tT,tT,tT,tT,tT,tT,tT,tT,fF] (fun s_ => [(24, s_.1), (28, s_.2.1), (7, .pointer (some ⟨s_.2.2, 0, none⟩)), (29, .agg #[.int .i64 a0_0, s_.2.1])]) (fun s_ w' => (w'.cell? ⟨gb272, 0, none⟩ = some (.int .i64 a0_0) ∧ w'.cell? ⟨gb272, 1, none⟩ = some (.slice (some ad274) l0_1.length c0_1)) ∧ (Kd.R k39 39 w' w.heap.size (fun k_ => k_ ≠ gb275) s_.2.1 t279) ∧ (w'.heap[gb272]? = some (.cells #[.int .i64 a0_0, .slice (some ad274) l0_1.length c0_1] 30 (0, 0))) ∧ (w'.heap[gb275]? = some (.cells #[.int .i64 ((rd_T39 l0_1 x15_1).f0), .int .i64 ((rd_T39 l0_1 x15_1).f1)] 39 (0, 0))) ∧ (w'.heap[s_.2.2]? = some (.cells #[.int .i64 0, .slice none 0 0] 30 (0, 0))) ∧ (w.heap.size ≤ s_.2.2) ∧ (w.heap.size ≤ s_.2.2) ∧ (gb272 ≠ s_.2.2) ∧ (s_.2.2 ≠ gb272) ∧ (gb275 ≠ s_.2.2) ∧ (s_.2.2 ≠ gb275) ∧ (Below w.heap.size w w')) ?_ ?_
          rotate_left
          ·intro hCont
           refine two_ (i := 4) (j := 10) (Ni := some 24) (Nj := some 7) #[tT,tT,tT,tT,tT,tT,tT,tT,fF,fF,fF,fF] #[tT,tT,tT,tT,fF,tT,tT,tT,fF,fF,tT,fF] rfl rfl rfl rfl (two_of HT_.out (by kernel_rfl)) (by decide) (by decide) (fun K hK => ?_) (fun K hK => ?_)
           ·skip
            refine goes_ Tryd.func16 (by kernel_rfl) rfl #[.slice (some ad274) l0_1.length c0_1] (by rfl) rfl rfl mT_ ?_
            with_reducible refine (impl_Pair_16.calls _ _ l0_1 t276 _ ?side1 ?side2 A11.out).mono ?_
            (case side1 => repeat (first | exact (Kd.C_below HR0_1.out HB.out) | (with_reducible refine Kd.C_alloc ?_ _) | (with_reducible refine Kd.C_drewN ?_ _) | (with_reducible refine Kd.C_drew ?_)))
            (case side2 => exact HC0_1.out)
            rintro e w85 ⟨v277, rfl, ho0, hb⟩
            refine ⟨_, rfl, ?_⟩
            have n0_ := Aside0.mk (Kd.R_lower (Kd.R_newB ho0 (g := gb275) (o := .cells #[.int .i64 ((rd_T39 l0_1 x15_1).f0), .int .i64 ((rd_T39 l0_1 x15_1).f1)] 39 (0, 0)) (uB_ BK275.out)) (qap (hB2_ GE272.out GE275.out)))
            have n1_ := Aside0.mk (qaq (g := gb272) (o := .cells #[.int .i64 a0_0, .slice (some ad274) l0_1.length c0_1] 30 (0, 0)) (uB_ BK272.out) hb)
            have n2_ := Aside0.mk (qaq (g := gb275) (o := .cells #[.int .i64 ((rd_T39 l0_1 x15_1).f0), .int .i64 ((rd_T39 l0_1 x15_1).f1)] 39 (0, 0)) (uB_ BK275.out) hb)
            have n3_ := Aside0.mk (qao (hB2_ GE272.out GE275.out) hb)
            clear BK272
            clear BK275
            clear HB
            have HO278 := n0_
            have BK272 := n1_
            have BK275 := n2_
            have HB := n3_
            clear n0_ n1_ n2_ n3_
            (try clear hb)
            (try clear hb2)
            (try clear hk)
            (try clear hi)
            (try clear ho0)
            obtain ⟨Ao86, co86, eo86⟩ := Kd.R_slice HO278.out
            (first | subst eo86 | (injection eo86 with f1_ f2_ f3_; have f4_ := f1_.symm; have f5_ := f3_.symm; clear f1_ f2_ f3_; subst f4_; subst f5_))
            refine hK.out _ _ ⟨(qaa BK272.out 0).trans rfl, (qaa BK272.out 1).trans rfl⟩ (fun hHeld => ?_)
            clear hK K
            refine norm_ (a' := ?_) ?_ ?_
            rotate_left
            ·show Act.put _ (some 24) _ = _
             simp only [Act.put, sP_, qai, qaj]
             rfl
            refine two_ (i := 8) (j := 10) (Ni := some 28) (Nj := some 7) #[tT,tT,tT,tT,tT,tT,tT,tT,tT,fF,fF,fF] #[tT,tT,tT,tT,tT,tT,tT,tT,fF,fF,tT,fF] rfl rfl rfl rfl (two_of HT_.out (by kernel_rfl)) (by decide) (by decide) (fun K hK => ?_) (fun K hK => ?_)
            ·skip
             refine goes_ Tryd.func15 (by kernel_rfl) rfl #[.slice Ao86 t276.length co86, .int .i64 x15_1, .int .i64 (wrap64 (x15_1 + 1))] (by rfl) rfl rfl mT_ ?_
             with_reducible refine (impl_Pair_15.calls (fun k_ => some k_ = (.slice Ao86 t276.length co86 : Value).ownBlock) (.slice Ao86 t276.length co86) t276 x15_1 (wrap64 (x15_1 + 1)) t279 w _ ?side1 ?side2 A12.out).mono ?_
             (case side1 => repeat (first | (with_reducible first | exact HB.out | apply qal | apply qac | apply qaf | refine qag ?_ GE272.out | refine qag ?_ GE275.out) | exact HB.out))
             (case side2 => exact Kd.R_tight rfl HO278.out)
             rintro e w87 ⟨v280, rfl, ho0, hb, hkp⟩
             refine ⟨_, rfl, ?_⟩
             have n0_ := Aside0.mk (blk_kept (uB_ BK272.out) hkp (fun hs_ => (fun e_ => (Kd.R_ne HO278.out BK272.out (by decide)) e_) hs_))
             have n1_ := Aside0.mk (blk_kept (uB_ BK275.out) hkp (fun hs_ => (fun e_ => (Kd.R_away HO278.out (fun _ hk => hk.2)) e_) hs_))
             have n2_ := Aside0.mk (Kd.R_mono (ok' := fun k_ => k_ ≠ gb275) ho0 (fun k_ hk_ => Or.elim hk_ (fun hs_ => fun e_ => (Kd.R_away HO278.out (fun _ hk => hk.2)) (by rw [← e_]; exact hs_)) (fun hn_ => (Kd.freshB (g := gb275) (o := .cells #[.int .i64 ((rd_T39 l0_1 x15_1).f0), .int .i64 ((rd_T39 l0_1 x15_1).f1)] 39 (0, 0)) (uB_ BK275.out) k_ hn_))))
             have n3_ := Aside0.mk (hb)
             clear BK272
             clear BK275
             clear HB
             clear HO278
             have BK272 := n0_
             have BK275 := n1_
             have HO281 := n2_
             have HB := n3_
             clear n0_ n1_ n2_ n3_
             (try clear hb)
             (try clear hkp)
             (try clear ho0)
             obtain ⟨Ao88, co88, eo88⟩ := Kd.R_slice HO281.out
             (first | subst eo88 | (injection eo88 with f1_ f2_ f3_; have f4_ := f1_.symm; have f5_ := f3_.symm; clear f1_ f2_ f3_; subst f4_; subst f5_))
             refine hK.out _ _ ⟨(qaa BK272.out 0).trans rfl, (qaa BK272.out 1).trans rfl⟩ (fun hHeld => ?_)
             clear hK K
             refine norm_ (a' := ?_) ?_ ?_
             rotate_left
             ·show Act.put _ (some 28) _ = _
              simp only [Act.put, sP_, qai, qaj]
              rfl
             refine qan (i := 9) (N := some 29) (v := ?_) (a' := ?_) #[tT,tT,tT,tT,tT,tT,tT,tT,tT,tT,fF,fF] rfl rfl (aO_ HT_.out) (fun _ _ _ h => h) (.inl ⟨by rfl, ?_⟩) ?_ ?_
             rotate_left
             ·intro w'
              go_simp
              with_reducible rfl
             rotate_left
             ·simp only [Act.put, sP_, qai, qaj]
              rfl
             refine one_ (i := 10) (N := some 7) #[tT,tT,tT,tT,tT,tT,tT,tT,tT,tT,tT,fF] rfl rfl (one_of HT_.out (by kernel_rfl)) (by decide) (fun K hK => ?_)
             refine box_step ?hg (N := 7) ?hd (cs := #[.int .i64 0, .slice none 0 0]) (t := 30) ?hr ?_; (case hd => rfl); (case hg => rfl); (case hr => first | (go_simp; done) | (go_simp; rfl))
             intro gb282 hg w89 hbox hb
             have n0_ := Aside0.mk (Kd.R_below (uR_ HO281.out) hb)
             have n1_ := Aside0.mk (qaq (g := gb272) (o := .cells #[.int .i64 a0_0, .slice (some ad274) l0_1.length c0_1] 30 (0, 0)) (uB_ BK272.out) hb)
             have n2_ := Aside0.mk (qaq (g := gb275) (o := .cells #[.int .i64 ((rd_T39 l0_1 x15_1).f0), .int .i64 ((rd_T39 l0_1 x15_1).f1)] 39 (0, 0)) (uB_ BK275.out) hb)
             have n3_ := Aside0.mk (qao (hB2_ GE272.out GE275.out) hb)
             have n4_ := Aside0.mk (hbox)
             have n5_ := Aside0.mk ((by rw [hg]; exact (qap (hB2_ GE272.out GE275.out)) : w.heap.size ≤ gb282))
             have n6_ := Aside0.mk ((by rw [hg]; exact (qap (hB2_ GE272.out GE275.out)) : w.heap.size ≤ gb282))
             have n7_ := Aside0.mk ((by rw [hg]; exact Nat.ne_of_lt (blk_lt (g := gb272) (o := .cells #[.int .i64 a0_0, .slice (some ad274) l0_1.length c0_1] 30 (0, 0)) (uB_ BK272.out)) : gb272 ≠ gb282))
             have n8_ := Aside0.mk ((by rw [hg]; exact Nat.ne_of_gt (blk_lt (g := gb272) (o := .cells #[.int .i64 a0_0, .slice (some ad274) l0_1.length c0_1] 30 (0, 0)) (uB_ BK272.out)) : gb282 ≠ gb272))
             have n9_ := Aside0.mk ((by rw [hg]; exact Nat.ne_of_lt (blk_lt (g := gb275) (o := .cells #[.int .i64 ((rd_T39 l0_1 x15_1).f0), .int .i64 ((rd_T39 l0_1 x15_1).f1)] 39 (0, 0)) (uB_ BK275.out)) : gb275 ≠ gb282))
             have n10_ := Aside0.mk ((by rw [hg]; exact Nat.ne_of_gt (blk_lt (g := gb275) (o := .cells #[.int .i64 ((rd_T39 l0_1 x15_1).f0), .int .i64 ((rd_T39 l0_1 x15_1).f1)] 39 (0, 0)) (uB_ BK275.out)) : gb282 ≠ gb275))
             clear HO281
             clear BK272
             clear BK275
             clear HB
             have HO281 := n0_
             have BK272 := n1_
             have BK275 := n2_
             have HB := n3_
             have BK282 := n4_
             have GW282 := n5_
             have GE282 := n6_
             have NB272_282 := n7_
             have NB282_272 := n8_
             have NB275_282 := n9_
             have NB282_275 := n10_
             clear n0_ n1_ n2_ n3_ n4_ n5_ n6_ n7_ n8_ n9_ n10_
             clear hb hbox hg
             refine hK.out _ _ ⟨(qaa BK272.out 0).trans rfl, (qaa BK272.out 1).trans rfl⟩ (fun hHeld => ?_)
             clear hK K
             refine norm_ (a' := ?_) ?_ ?_
             rotate_left
             ·show Act.put _ (some 7) _ = _
              simp only [Act.put, sP_, qai, qaj]
              rfl
             exact norm_ (by simp only [putAll, Act.put, sP_]) (hCont (.slice Ao86 t276.length co86, .slice Ao88 t279.length co88, gb282) _ ⟨hHeld, (uR_ HO281.out), (uB_ BK272.out), (uB_ BK275.out), (uB_ BK282.out), GW282.out, GE282.out, NB272_282.out, NB282_272.out, NB275_282.out, NB282_275.out, (hB3_ GE272.out GE275.out GE282.out)⟩)
            ·skip
             refine box_step ?hg (N := 7) ?hd (cs := #[.int .i64 0, .slice none 0 0]) (t := 30) ?hr ?_; (case hd => rfl); (case hg => rfl); (case hr => first | (go_simp; done) | (go_simp; rfl))
             intro gb282 hg w86 hbox hb
             have n0_ := Aside0.mk (Kd.R_below (uR_ HO278.out) hb)
             have n1_ := Aside0.mk (qaq (g := gb272) (o := .cells #[.int .i64 a0_0, .slice (some ad274) l0_1.length c0_1] 30 (0, 0)) (uB_ BK272.out) hb)
             have n2_ := Aside0.mk (qaq (g := gb275) (o := .cells #[.int .i64 ((rd_T39 l0_1 x15_1).f0), .int .i64 ((rd_T39 l0_1 x15_1).f1)] 39 (0, 0)) (uB_ BK275.out) hb)
             have n3_ := Aside0.mk (qao (hB2_ GE272.out GE275.out) hb)
             have n4_ := Aside0.mk (hbox)
             have n5_ := Aside0.mk ((by rw [hg]; exact (qap (hB2_ GE272.out GE275.out)) : w.heap.size ≤ gb282))
             have n6_ := Aside0.mk ((by rw [hg]; exact (qap (hB2_ GE272.out GE275.out)) : w.heap.size ≤ gb282))
             have n7_ := Aside0.mk ((by rw [hg]; exact Nat.ne_of_lt (blk_lt (g := gb272) (o := .cells #[.int .i64 a0_0, .slice (some ad274) l0_1.length c0_1] 30 (0, 0)) (uB_ BK272.out)) : gb272 ≠ gb282))
             have n8_ := Aside0.mk ((by rw [hg]; exact Nat.ne_of_gt (blk_lt (g := gb272) (o := .cells #[.int .i64 a0_0, .slice (some ad274) l0_1.length c0_1] 30 (0, 0)) (uB_ BK272.out)) : gb282 ≠ gb272))
             have n9_ := Aside0.mk ((by rw [hg]; exact Nat.ne_of_lt (blk_lt (g := gb275) (o := .cells #[.int .i64 ((rd_T39 l0_1 x15_1).f0), .int .i64 ((rd_T39 l0_1 x15_1).f1)] 39 (0, 0)) (uB_ BK275.out)) : gb275 ≠ gb282))
             have n10_ := Aside0.mk ((by rw [hg]; exact Nat.ne_of_gt (blk_lt (g := gb275) (o := .cells #[.int .i64 ((rd_T39 l0_1 x15_1).f0), .int .i64 ((rd_T39 l0_1 x15_1).f1)] 39 (0, 0)) (uB_ BK275.out)) : gb282 ≠ gb275))
             clear HO278
             clear BK272
             clear BK275
             clear HB
             have HO278 := n0_
             have BK272 := n1_
             have BK275 := n2_
             have HB := n3_
             have BK282 := n4_
             have GW282 := n5_
             have GE282 := n6_
             have NB272_282 := n7_
             have NB282_272 := n8_
             have NB275_282 := n9_
             have NB282_275 := n10_
             clear n0_ n1_ n2_ n3_ n4_ n5_ n6_ n7_ n8_ n9_ n10_
             clear hb hbox hg
             obtain ⟨Ao87, co87, eo87⟩ := Kd.R_slice HO278.out
             (first | subst eo87 | (injection eo87 with f1_ f2_ f3_; have f4_ := f1_.symm; have f5_ := f3_.symm; clear f1_ f2_ f3_; subst f4_; subst f5_))
             refine hK.out _ _ ⟨(qaa BK272.out 0).trans rfl, (qaa BK272.out 1).trans rfl⟩ (fun hHeld => ?_)
             clear hK K
             refine norm_ (a' := ?_) ?_ ?_
             rotate_left
             ·show Act.put _ (some 7) _ = _
              simp only [Act.put, sP_, qai, qaj]
              rfl
             refine one_ (i := 8) (N := some 28) #[tT,tT,tT,tT,tT,tT,tT,tT,tT,fF,tT,fF] rfl rfl (one_of HT_.out (by kernel_rfl)) (by decide) (fun K hK => ?_)
             refine goes_ Tryd.func15 (by kernel_rfl) rfl #[.slice Ao87 t276.length co87, .int .i64 x15_1, .int .i64 (wrap64 (x15_1 + 1))] (by rfl) rfl rfl mT_ ?_
             with_reducible refine (impl_Pair_15.calls (fun k_ => some k_ = (.slice Ao87 t276.length co87 : Value).ownBlock) (.slice Ao87 t276.length co87) t276 x15_1 (wrap64 (x15_1 + 1)) t279 w _ ?side1 ?side2 A12.out).mono ?_
             (case side1 => repeat (first | (with_reducible first | exact HB.out | apply qal | apply qac | apply qaf | refine qag ?_ GE272.out | refine qag ?_ GE275.out | refine qag ?_ GE282.out) | exact HB.out))
             (case side2 => exact Kd.R_tight rfl HO278.out)
             rintro e w88 ⟨v280, rfl, ho0, hb, hkp⟩
             refine ⟨_, rfl, ?_⟩
             have n0_ := Aside0.mk (blk_kept (uB_ BK272.out) hkp (fun hs_ => (fun e_ => (Kd.R_ne HO278.out BK272.out (by decide)) e_) hs_))
             have n1_ := Aside0.mk (blk_kept (uB_ BK275.out) hkp (fun hs_ => (fun e_ => (Kd.R_away HO278.out (fun _ hk => hk.2)) e_) hs_))
             have n2_ := Aside0.mk (blk_kept (uB_ BK282.out) hkp (fun hs_ => (fun e_ => (Kd.R_ne HO278.out BK282.out (by decide)) e_) hs_))
             have n3_ := Aside0.mk (Kd.R_mono (ok' := fun k_ => k_ ≠ gb275) ho0 (fun k_ hk_ => Or.elim hk_ (fun hs_ => fun e_ => (Kd.R_away HO278.out (fun _ hk => hk.2)) (by rw [← e_]; exact hs_)) (fun hn_ => (Kd.freshB (g := gb275) (o := .cells #[.int .i64 ((rd_T39 l0_1 x15_1).f0), .int .i64 ((rd_T39 l0_1 x15_1).f1)] 39 (0, 0)) (uB_ BK275.out) k_ hn_))))
             have n4_ := Aside0.mk (hb)
             clear BK272
             clear BK275
             clear BK282
             clear HB
             clear HO278
             have BK272 := n0_
             have BK275 := n1_
             have BK282 := n2_
             have HO281 := n3_
             have HB := n4_
             clear n0_ n1_ n2_ n3_ n4_
             (try clear hb)
             (try clear hkp)
             (try clear ho0)
             obtain ⟨Ao89, co89, eo89⟩ := Kd.R_slice HO281.out
             (first | subst eo89 | (injection eo89 with f1_ f2_ f3_; have f4_ := f1_.symm; have f5_ := f3_.symm; clear f1_ f2_ f3_; subst f4_; subst f5_))
             refine hK.out _ _ ⟨(qaa BK272.out 0).trans rfl, (qaa BK272.out 1).trans rfl⟩ (fun hHeld => ?_)
             clear hK K
             refine norm_ (a' := ?_) ?_ ?_
             rotate_left
             ·show Act.put _ (some 28) _ = _
              simp only [Act.put, sP_, qai, qaj]
              rfl
             refine qan (i := 9) (N := some 29) (v := ?_) (a' := ?_) #[tT,tT,tT,tT,tT,tT,tT,tT,tT,tT,tT,fF] rfl rfl (aO_ HT_.out) (fun _ _ _ h => h) (.inl ⟨by rfl, ?_⟩) ?_ ?_
             rotate_left
             ·intro w'
              go_simp
              with_reducible rfl
             rotate_left
             ·simp only [Act.put, sP_, qai, qaj]
              rfl
             exact norm_ (by simp only [putAll, Act.put, sP_]) (hCont (.slice Ao87 t276.length co87, .slice Ao89 t279.length co89, gb282) _ ⟨hHeld, (uR_ HO281.out), (uB_ BK272.out), (uB_ BK275.out), (uB_ BK282.out), GW282.out, GE282.out, NB272_282.out, NB282_272.out, NB275_282.out, NB282_275.out, (hB3_ GE272.out GE275.out GE282.out)⟩)
           ·skip
            refine box_step ?hg (N := 7) ?hd (cs := #[.int .i64 0, .slice none 0 0]) (t := 30) ?hr ?_; (case hd => rfl); (case hg => rfl); (case hr => first | (go_simp; done) | (go_simp; rfl))
            intro gb282 hg w85 hbox hb
            have n0_ := Aside0.mk (qaq (g := gb272) (o := .cells #[.int .i64 a0_0, .slice (some ad274) l0_1.length c0_1] 30 (0, 0)) (uB_ BK272.out) hb)
            have n1_ := Aside0.mk (qaq (g := gb275) (o := .cells #[.int .i64 ((rd_T39 l0_1 x15_1).f0), .int .i64 ((rd_T39 l0_1 x15_1).f1)] 39 (0, 0)) (uB_ BK275.out) hb)
            have n2_ := Aside0.mk (qao (hB2_ GE272.out GE275.out) hb)
            have n3_ := Aside0.mk (hbox)
            have n4_ := Aside0.mk ((by rw [hg]; exact (qap (hB2_ GE272.out GE275.out)) : w.heap.size ≤ gb282))
            have n5_ := Aside0.mk ((by rw [hg]; exact (qap (hB2_ GE272.out GE275.out)) : w.heap.size ≤ gb282))
            have n6_ := Aside0.mk ((by rw [hg]; exact Nat.ne_of_lt (blk_lt (g := gb272) (o := .cells #[.int .i64 a0_0, .slice (some ad274) l0_1.length c0_1] 30 (0, 0)) (uB_ BK272.out)) : gb272 ≠ gb282))
            have n7_ := Aside0.mk ((by rw [hg]; exact Nat.ne_of_gt (blk_lt (g := gb272) (o := .cells #[.int .i64 a0_0, .slice (some ad274) l0_1.length c0_1] 30 (0, 0)) (uB_ BK272.out)) : gb282 ≠ gb272))
            have n8_ := Aside0.mk ((by rw [hg]; exact Nat.ne_of_lt (blk_lt (g := gb275) (o := .cells #[.int .i64 ((rd_T39 l0_1 x15_1).f0), .int .i64 ((rd_T39 l0_1 x15_1).f1)] 39 (0, 0)) (uB_ BK275.out)) : gb275 ≠ gb282))
            have n9_ := Aside0.mk ((by rw [hg]; exact Nat.ne_of_gt (blk_lt (g := gb275) (o := .cells #[.int .i64 ((rd_T39 l0_1 x15_1).f0), .int .i64 ((rd_T39 l0_1 x15_1).f1)] 39 (0, 0)) (uB_ BK275.out)) : gb282 ≠ gb275))
            clear BK272
            clear BK275
            clear HB
            have BK272 := n0_
            have BK275 := n1_
            have HB := n2_
            have BK282 := n3_
            have GW282 := n4_
            have GE282 := n5_
            have NB272_282 := n6_
            have NB282_272 := n7_
            have NB275_282 := n8_
            have NB282_275 := n9_
            clear n0_ n1_ n2_ n3_ n4_ n5_ n6_ n7_ n8_ n9_
            clear hb hbox hg
            refine hK.out _ _ ⟨(qaa BK272.out 0).trans rfl, (qaa BK272.out 1).trans rfl⟩ (fun hHeld => ?_)
            clear hK K
            refine norm_ (a' := ?_) ?_ ?_
            rotate_left
            ·show Act.put _ (some 7) _ = _
             simp only [Act.put, sP_, qai, qaj]
             rfl
            refine one_ (i := 4) (N := some 24) #[tT,tT,tT,tT,tT,tT,tT,tT,fF,fF,tT,fF] rfl rfl (one_of HT_.out (by kernel_rfl)) (by decide) (fun K hK => ?_)
            refine goes_ Tryd.func16 (by kernel_rfl) rfl #[.slice (some ad274) l0_1.length c0_1] (by rfl) rfl rfl mT_ ?_
            with_reducible refine (impl_Pair_16.calls _ _ l0_1 t276 _ ?side1 ?side2 A11.out).mono ?_
            (case side1 => repeat (first | exact (Kd.C_below HR0_1.out HB.out) | (with_reducible refine Kd.C_alloc ?_ _) | (with_reducible refine Kd.C_drewN ?_ _) | (with_reducible refine Kd.C_drew ?_)))
            (case side2 => exact HC0_1.out)
            rintro e w86 ⟨v277, rfl, ho0, hb⟩
            refine ⟨_, rfl, ?_⟩
            have n0_ := Aside0.mk (Kd.R_lower (Kd.R_newB ho0 (g := gb275) (o := .cells #[.int .i64 ((rd_T39 l0_1 x15_1).f0), .int .i64 ((rd_T39 l0_1 x15_1).f1)] 39 (0, 0)) (uB_ BK275.out)) (qap (hB3_ GE272.out GE275.out GE282.out)))
            have n1_ := Aside0.mk (qaq (g := gb272) (o := .cells #[.int .i64 a0_0, .slice (some ad274) l0_1.length c0_1] 30 (0, 0)) (uB_ BK272.out) hb)
            have n2_ := Aside0.mk (qaq (g := gb275) (o := .cells #[.int .i64 ((rd_T39 l0_1 x15_1).f0), .int .i64 ((rd_T39 l0_1 x15_1).f1)] 39 (0, 0)) (uB_ BK275.out) hb)
            have n3_ := Aside0.mk (qaq (g := gb282) (o := .cells #[.int .i64 0, .slice none 0 0] 30 (0, 0)) (uB_ BK282.out) hb)
            have n4_ := Aside0.mk (qao (hB3_ GE272.out GE275.out GE282.out) hb)
            clear BK272
            clear BK275
            clear BK282
            clear HB
            have HO278 := n0_
            have BK272 := n1_
            have BK275 := n2_
            have BK282 := n3_
            have HB := n4_
            clear n0_ n1_ n2_ n3_ n4_
            (try clear hb)
            (try clear hb2)
            (try clear hk)
            (try clear hi)
            (try clear ho0)
            obtain ⟨Ao87, co87, eo87⟩ := Kd.R_slice HO278.out
            (first | subst eo87 | (injection eo87 with f1_ f2_ f3_; have f4_ := f1_.symm; have f5_ := f3_.symm; clear f1_ f2_ f3_; subst f4_; subst f5_))
            refine hK.out _ _ ⟨(qaa BK272.out 0).trans rfl, (qaa BK272.out 1).trans rfl⟩ (fun hHeld => ?_)
            clear hK K
            refine norm_ (a' := ?_) ?_ ?_
            rotate_left
            ·show Act.put _ (some 24) _ = _
             simp only [Act.put, sP_, qai, qaj]
             rfl
            refine one_ (i := 8) (N := some 28) #[tT,tT,tT,tT,tT,tT,tT,tT,tT,fF,tT,fF] rfl rfl (one_of HT_.out (by kernel_rfl)) (by decide) (fun K hK => ?_)
            refine goes_ Tryd.func15 (by kernel_rfl) rfl #[.slice Ao87 t276.length co87, .int .i64 x15_1, .int .i64 (wrap64 (x15_1 + 1))] (by rfl) rfl rfl mT_ ?_
            with_reducible refine (impl_Pair_15.calls (fun k_ => some k_ = (.slice Ao87 t276.length co87 : Value).ownBlock) (.slice Ao87 t276.length co87) t276 x15_1 (wrap64 (x15_1 + 1)) t279 w _ ?side1 ?side2 A12.out).mono ?_
            (case side1 => repeat (first | (with_reducible first | exact HB.out | apply qal | apply qac | apply qaf | refine qag ?_ GE272.out | refine qag ?_ GE275.out | refine qag ?_ GE282.out) | exact HB.out))
            (case side2 => exact Kd.R_tight rfl HO278.out)
            rintro e w88 ⟨v280, rfl, ho0, hb, hkp⟩
            refine ⟨_, rfl, ?_⟩
            have n0_ := Aside0.mk (blk_kept (uB_ BK272.out) hkp (fun hs_ => (fun e_ => (Kd.R_ne HO278.out BK272.out (by decide)) e_) hs_))
            have n1_ := Aside0.mk (blk_kept (uB_ BK275.out) hkp (fun hs_ => (fun e_ => (Kd.R_away HO278.out (fun _ hk => hk.2)) e_) hs_))
            have n2_ := Aside0.mk (blk_kept (uB_ BK282.out) hkp (fun hs_ => (fun e_ => (Kd.R_ne HO278.out BK282.out (by decide)) e_) hs_))
            have n3_ := Aside0.mk (Kd.R_mono (ok' := fun k_ => k_ ≠ gb275) ho0 (fun k_ hk_ => Or.elim hk_ (fun hs_ => fun e_ => (Kd.R_away HO278.out (fun _ hk => hk.2)) (by rw [← e_]; exact hs_)) (fun hn_ => (Kd.freshB (g := gb275) (o := .cells #[.int .i64 ((rd_T39 l0_1 x15_1).f0), .int .i64 ((rd_T39 l0_1 x15_1).f1)] 39 (0, 0)) (uB_ BK275.out) k_ hn_))))
            have n4_ := Aside0.mk (hb)
            clear BK272
            clear BK275
            clear BK282
            clear HB
            clear HO278
            have BK272 := n0_
            have BK275 := n1_
            have BK282 := n2_
            have HO281 := n3_
            have HB := n4_
            clear n0_ n1_ n2_ n3_ n4_
            (try clear hb)
            (try clear hkp)
            (try clear ho0)
            obtain ⟨Ao89, co89, eo89⟩ := Kd.R_slice HO281.out
            (first | subst eo89 | (injection eo89 with f1_ f2_ f3_; have f4_ := f1_.symm; have f5_ := f3_.symm; clear f1_ f2_ f3_; subst f4_; subst f5_))
            refine hK.out _ _ ⟨(qaa BK272.out 0).trans rfl, (qaa BK272.out 1).trans rfl⟩ (fun hHeld => ?_)
            clear hK K
            refine norm_ (a' := ?_) ?_ ?_
            rotate_left
            ·show Act.put _ (some 28) _ = _
             simp only [Act.put, sP_, qai, qaj]
             rfl
            refine qan (i := 9) (N := some 29) (v := ?_) (a' := ?_) #[tT,tT,tT,tT,tT,tT,tT,tT,tT,tT,tT,fF] rfl rfl (aO_ HT_.out) (fun _ _ _ h => h) (.inl ⟨by rfl, ?_⟩) ?_ ?_
            rotate_left
            ·intro w'
             go_simp
             with_reducible rfl
            rotate_left
            ·simp only [Act.put, sP_, qai, qaj]
             rfl
            exact norm_ (by simp only [putAll, Act.put, sP_]) (hCont (.slice Ao87 t276.length co87, .slice Ao89 t279.length co89, gb282) _ ⟨hHeld, (uR_ HO281.out), (uB_ BK272.out), (uB_ BK275.out), (uB_ BK282.out), GW282.out, GE282.out, NB272_282.out, NB282_272.out, NB275_282.out, NB282_275.out, (hB3_ GE272.out GE275.out GE282.out)⟩)
          rintro ⟨v277, v280, gb282⟩ w90 ⟨hS_, h0_, h1_, h2_, h3_, h4_, h5_, h6_, h7_, h8_, h9_, h10_⟩
          have n0_ : Aside0 (Kd.R k39 39 w90 w.heap.size (fun k_ => k_ ≠ gb275) v280 t279) := ⟨h0_⟩
          have n1_ : Aside0 (w90.heap[gb272]? = some (.cells #[.int .i64 a0_0, .slice (some ad274) l0_1.length c0_1] 30 (0, 0))) := ⟨h1_⟩
          have n2_ : Aside0 (w90.heap[gb275]? = some (.cells #[.int .i64 ((rd_T39 l0_1 x15_1).f0), .int .i64 ((rd_T39 l0_1 x15_1).f1)] 39 (0, 0))) := ⟨h2_⟩
          have n3_ : Aside0 (w90.heap[gb282]? = some (.cells #[.int .i64 0, .slice none 0 0] 30 (0, 0))) := ⟨h3_⟩
          have n4_ : Aside0 (w.heap.size ≤ gb282) := ⟨h4_⟩
          have n5_ : Aside0 (w.heap.size ≤ gb282) := ⟨h5_⟩
          have n6_ : Aside0 (gb272 ≠ gb282) := ⟨h6_⟩
          have n7_ : Aside0 (gb282 ≠ gb272) := ⟨h7_⟩
          have n8_ : Aside0 (gb275 ≠ gb282) := ⟨h8_⟩
          have n9_ : Aside0 (gb282 ≠ gb275) := ⟨h9_⟩
          have n10_ : Aside0 (Below w.heap.size w w90) := ⟨h10_⟩
          clear BK272
          clear BK275
          clear HB
          clear h0_ h1_ h2_ h3_ h4_ h5_ h6_ h7_ h8_ h9_ h10_
          have HO281 := n0_
          have BK272 := n1_
          have BK275 := n2_
          have BK282 := n3_
          have GW282 := n4_
          have GE282 := n5_
          have NB272_282 := n6_
          have NB282_272 := n7_
          have NB275_282 := n8_
          have NB282_275 := n9_
          have HB := n10_
          clear n0_ n1_ n2_ n3_ n4_ n5_ n6_ n7_ n8_ n9_ n10_
          have hHeld : w90.cell? ⟨gb272, 0, none⟩ = some (.int .i64 a0_0) ∧ w90.cell? ⟨gb272, 1, none⟩ = some (.slice (some ad274) l0_1.length c0_1) := hS_
          obtain ⟨Ao91, co91, eo91⟩ := Kd.R_slice HO281.out
          (first | subst eo91 | (injection eo91 with f1_ f2_ f3_; have f4_ := f1_.symm; have f5_ := f3_.symm; clear f1_ f2_ f3_; subst f4_; subst f5_))
          refine norm_ (a' := ?_) ?_ ?_
          rotate_left
          ·simp only [putAll, Act.put, sP_]
           rfl
          refine one_ (i := 11) (N := none) #[tT,tT,tT,tT,tT,tT,tT,tT,tT,tT,tT,tT] rfl rfl (one_of HT_.out (by kernel_rfl)) (by decide) (fun K hK => ?_)
          have hs92 : w90.cell? ⟨gb282, 0, none⟩ = some (.int .i64 0) := (qaa BK282.out 0).trans rfl
          have hfs92 := qam BK282.out 0
          have hns92_0 := NB272_282.out
          have hns92_1 := NB275_282.out
          have hms92_0 := NB282_272.out
          have hms92_1 := NB282_275.out
          have hs93 : w90.cell? ⟨gb282, 1, none⟩ = some (.slice none 0 0) := (qaa BK282.out 1).trans rfl
          have hfs93 := qam BK282.out 1
          have hns93_0 := NB272_282.out
          have hns93_1 := NB275_282.out
          have hms93_0 := NB282_272.out
          have hms93_1 := NB282_275.out
          refine skip_ (w1 := ?_) (by rfl) rfl ?_ ?_
          rotate_left
          ·go_simp
           rfl
          refine hK.out _ _ ⟨((cell_far (p := ⟨gb282, _, none⟩) NB272_282.out _).trans (((cell_far (p := ⟨gb282, _, none⟩) NB272_282.out _).trans (hHeld.1)))), ((cell_far (p := ⟨gb282, _, none⟩) NB272_282.out _).trans (((cell_far (p := ⟨gb282, _, none⟩) NB272_282.out _).trans (hHeld.2))))⟩ (fun hHeld => ?_)
          clear hK K
          refine done_ (done_of HT_.out (by kernel_rfl)) ?_
          try go_wp2
          have n0_ : Aside0 (Kd.R k39 39 ((w90.setCell ⟨gb282, 0, none⟩ (.int .i64 a0_0)).setCell ⟨gb282, 1, none⟩ (.slice Ao91 t279.length co91)) w.heap.size (fun k_ => k_ ≠ gb275) (.slice Ao91 t279.length co91) t279) := ⟨by (with_reducible repeat (first | apply Kd.R_alloc | apply Kd.R_drewN | apply Kd.R_drew)); exact Kd.R_mono (Kd.R_far (p := ⟨gb282, 1, none⟩) (Kd.R_far (p := ⟨gb282, 0, none⟩) (Kd.R_types HO281.out BK282.out (by decide)) (fun _ hk => hk.2) (.int .i64 a0_0)) (fun _ hk => hk.2) (.slice Ao91 t279.length co91)) (fun _ hk => hk.1)⟩
          have n1_ : Aside0 (((w90.setCell ⟨gb282, 0, none⟩ (.int .i64 a0_0)).setCell ⟨gb282, 1, none⟩ (.slice Ao91 t279.length co91)).heap[gb272]? = some (.cells #[.int .i64 a0_0, .slice (some ad274) l0_1.length c0_1] 30 (0, 0))) := ⟨by (with_reducible repeat (first | refine qad ?_ _ | refine qab ?_ | refine qae ?_ _)); refine blk_far ?_ NB272_282.out _; (with_reducible repeat (first | refine qad ?_ _ | refine qab ?_ | refine qae ?_ _)); refine blk_far ?_ NB272_282.out _; (with_reducible repeat (first | refine qad ?_ _ | refine qab ?_ | refine qae ?_ _)); exact BK272.out⟩
          have n2_ : Aside0 (((w90.setCell ⟨gb282, 0, none⟩ (.int .i64 a0_0)).setCell ⟨gb282, 1, none⟩ (.slice Ao91 t279.length co91)).heap[gb275]? = some (.cells #[.int .i64 ((rd_T39 l0_1 x15_1).f0), .int .i64 ((rd_T39 l0_1 x15_1).f1)] 39 (0, 0))) := ⟨by (with_reducible repeat (first | refine qad ?_ _ | refine qab ?_ | refine qae ?_ _)); refine blk_far ?_ NB275_282.out _; (with_reducible repeat (first | refine qad ?_ _ | refine qab ?_ | refine qae ?_ _)); refine blk_far ?_ NB275_282.out _; (with_reducible repeat (first | refine qad ?_ _ | refine qab ?_ | refine qae ?_ _)); exact BK275.out⟩
          have n3_ : Aside0 (((w90.setCell ⟨gb282, 0, none⟩ (.int .i64 a0_0)).setCell ⟨gb282, 1, none⟩ (.slice Ao91 t279.length co91)).heap[gb282]? = some (.cells #[.int .i64 a0_0, .slice Ao91 t279.length co91] 30 (0, 0))) := ⟨by (with_reducible repeat (first | refine qad ?_ _ | refine qab ?_ | refine qae ?_ _)); refine blk_put (cs := #[.int .i64 a0_0, .slice none 0 0]) ?_ 1 _ rfl; (with_reducible repeat (first | refine qad ?_ _ | refine qab ?_ | refine qae ?_ _)); refine blk_put (cs := #[.int .i64 0, .slice none 0 0]) ?_ 0 _ rfl; (with_reducible repeat (first | refine qad ?_ _ | refine qab ?_ | refine qae ?_ _)); exact BK282.out⟩
          have n4_ : Aside0 (Below w.heap.size w ((w90.setCell ⟨gb282, 0, none⟩ (.int .i64 a0_0)).setCell ⟨gb282, 1, none⟩ (.slice Ao91 t279.length co91))) := ⟨by repeat (first | (with_reducible first | exact HB.out | apply qal | apply qac | apply qaf | refine qag ?_ GE272.out | refine qag ?_ GE275.out | refine qag ?_ GE282.out) | exact HB.out)⟩
          (try clear HO281)
          (try clear BK272)
          (try clear BK275)
          (try clear BK282)
          (try clear HB)
          generalize ((w90.setCell ⟨gb282, 0, none⟩ (.int .i64 a0_0)).setCell ⟨gb282, 1, none⟩ (.slice Ao91 t279.length co91)) = w94 at n0_ n1_ n2_ n3_ n4_ ⊢
          have HO281 := n0_
          have BK272 := n1_
          have BK275 := n2_
          have BK282 := n3_
          have HB := n4_
          clear n0_ n1_ n2_ n3_ n4_
          have n0_ := Aside0.mk (Kd.R_drew HO281.out)
          have n1_ := Aside0.mk (qab BK272.out)
          have n2_ := Aside0.mk (qab BK275.out)
          have n3_ := Aside0.mk (qab BK282.out)
          have n4_ := Aside0.mk (qaf HB.out)
          clear HO281
          clear BK272
          clear BK275
          clear BK282
          clear HB
          have HO281 := n0_
          have BK272 := n1_
          have BK275 := n2_
          have BK282 := n3_
          have HB := n4_
          clear n0_ n1_ n2_ n3_ n4_
          refine start_ (n := 10) (S := fun w' => w'.cell? ⟨gb282, 0, none⟩ = some (.int .i64 a0_0) ∧ w'.cell? ⟨gb282, 1, none⟩ = some (.slice Ao91 t279.length co91) ∧ w'.cell? ⟨gb275, 0, none⟩ = some (.int .i64 ((rd_T39 l0_1 x15_1).f0)) ∧ w'.cell? ⟨gb275, 1, none⟩ = some (.int .i64 ((rd_T39 l0_1 x15_1).f1))) (ds := []) #[fF,fF,fF,fF,fF,fF,fF,fF,fF,fF] (by kernel_rfl) rfl rfl ⟨(qaa BK282.out 0).trans rfl, (qaa BK282.out 1).trans rfl, (qaa BK275.out 0).trans rfl, (qaa BK275.out 1).trans rfl⟩ (fun hHeld => ?_); refine with_tabW impl_ShortestRound.tab8 impl_ShortestRound.bits8 (fun HT_ HW_ => ?_)
          generalize w94.drew = w95 at HO281 BK272 BK275 BK282 HB hHeld ⊢
          refine qan (i := 2) (N := some 32) (v := ?_) (a' := ?_) #[fF,fF,tT,fF,fF,fF,fF,fF,fF,fF] rfl rfl (aO_ HT_.out) (fun _ _ _ h => h) (.inl ⟨by rfl, ?_⟩) ?_ ?_
          rotate_left
          ·intro w'
           go_simp
           with_reducible rfl
          rotate_left
          ·simp only [Act.put, sP_, qai, qaj]
           rfl
          refine qan (i := 5) (N := some 35) (v := ?_) (a' := ?_) #[fF,fF,tT,fF,fF,tT,fF,fF,fF,fF] rfl rfl (aO_ HT_.out) (fun _ _ _ h => h) (.inl ⟨by rfl, ?_⟩) ?_ ?_
          rotate_left
          ·intro w'
           go_simp
           with_reducible rfl
          rotate_left
          ·simp only [Act.put, sP_, qai, qaj]
           rfl
          refine take_ (i := 0) (N := some 30) (v := ?_) (a' := ?_) #[tT,fF,tT,fF,fF,tT,fF,fF,fF,fF] rfl rfl (qar HT_.out HW_.out (by kernel_rfl)) (fun _ _ _ h => h) (Or.inl ⟨by rfl, ?_⟩) hHeld ?_ ?_
          rotate_left
          ·rintro w' ⟨s0, s1, s2, s3⟩
           go_simp
           with_reducible rfl
          rotate_left
          ·simp only [Act.put, sP_, qai, qaj]
           rfl
          refine take_ (i := 3) (N := some 33) (v := ?_) (a' := ?_) #[tT,fF,tT,tT,fF,tT,fF,fF,fF,fF] rfl rfl (qar HT_.out HW_.out (by kernel_rfl)) (fun _ _ _ h => h) (Or.inl ⟨by rfl, ?_⟩) hHeld ?_ ?_
          rotate_left
          ·rintro w' ⟨s0, s1, s2, s3⟩
           go_simp
           with_reducible rfl
          rotate_left
          ·simp only [Act.put, sP_, qai, qaj]
           rfl
          refine take_ (i := 6) (N := some 36) (v := ?_) (a' := ?_) #[tT,fF,tT,tT,fF,tT,tT,fF,fF,fF] rfl rfl (qar HT_.out HW_.out (by kernel_rfl)) (fun _ _ _ h => h) (Or.inl ⟨by rfl, ?_⟩) hHeld ?_ ?_
          rotate_left
          ·rintro w' ⟨s0, s1, s2, s3⟩
           go_simp
           with_reducible rfl
          rotate_left
          ·simp only [Act.put, sP_, qai, qaj]
           rfl
          refine one_ (i := 1) (N := some 31) #[tT,tT,tT,tT,fF,tT,tT,fF,fF,fF] rfl rfl (one_of HT_.out (by kernel_rfl)) (by decide) (fun K hK => ?_)
          refine goes_ Tryd.func17 (by kernel_rfl) rfl #[.agg #[.int .i64 a0_0, .slice Ao91 t279.length co91]] (by rfl) rfl rfl mT_ ?_
          with_reducible refine (impl_Party_table.calls k1 a0_0 _ _ t279 t283 _ ?side1 ?side2 A13.out).mono ?_
          (case side1 => repeat (first | exact (Kd.R_reads' HO281.out).2.2 | (with_reducible refine Kd.C_alloc ?_ _) | (with_reducible refine Kd.C_drewN ?_ _) | (with_reducible refine Kd.C_drew ?_)))
          (case side2 => exact (Kd.R_reads' HO281.out).2.1)
          rintro e w96 ⟨v284, rfl, ho0, hb⟩
          refine ⟨_, rfl, ?_⟩
          have n0_ := Aside0.mk (Kd.R_below (uR_ HO281.out) hb)
          have n1_ := Aside0.mk (Kd.R_lower ho0 (qap (hB3_ GE272.out GE275.out GE282.out)))
          have n2_ := Aside0.mk (qaq (g := gb272) (o := .cells #[.int .i64 a0_0, .slice (some ad274) l0_1.length c0_1] 30 (0, 0)) (uB_ BK272.out) hb)
          have n3_ := Aside0.mk (qaq (g := gb275) (o := .cells #[.int .i64 ((rd_T39 l0_1 x15_1).f0), .int .i64 ((rd_T39 l0_1 x15_1).f1)] 39 (0, 0)) (uB_ BK275.out) hb)
          have n4_ := Aside0.mk (qaq (g := gb282) (o := .cells #[.int .i64 a0_0, .slice Ao91 t279.length co91] 30 (0, 0)) (uB_ BK282.out) hb)
          have n5_ := Aside0.mk (qao (hB3_ GE272.out GE275.out GE282.out) hb)
          clear HO281
          clear BK272
          clear BK275
          clear BK282
          clear HB
          have HO281 := n0_
          have HO285 := n1_
          have BK272 := n2_
          have BK275 := n3_
          have BK282 := n4_
          have HB := n5_
          clear n0_ n1_ n2_ n3_ n4_ n5_
          (try clear hb)
          (try clear hb2)
          (try clear hk)
          (try clear hi)
          (try clear ho0)
          obtain ⟨Ao97, co97, eo97⟩ := Kd.R_slice HO285.out
          (first | subst eo97 | (injection eo97 with f1_ f2_ f3_; have f4_ := f1_.symm; have f5_ := f3_.symm; clear f1_ f2_ f3_; subst f4_; subst f5_))
          refine hK.out _ _ ⟨(qaa BK282.out 0).trans rfl, (qaa BK282.out 1).trans rfl, (qaa BK275.out 0).trans rfl, (qaa BK275.out 1).trans rfl⟩ (fun hHeld => ?_)
          clear hK K
          refine norm_ (a' := ?_) ?_ ?_
          rotate_left
          ·show Act.put _ (some 31) _ = _
           simp only [Act.put, sP_, qai, qaj]
           rfl
          refine one_ (i := 4) (N := some 34) #[tT,tT,tT,tT,tT,tT,tT,fF,fF,fF] rfl rfl (one_of HT_.out (by kernel_rfl)) (by decide) (fun K hK => ?_)
          refine goes_ Tryd.func18 (by kernel_rfl) rfl #[.slice Ao97 t283.length co97, .int .i64 ((rd_T39 l0_1 x15_1).f0)] (by rfl) rfl rfl mT_ ?_
          with_reducible refine (impl_table_distances.calls k1 _ _ t283 ((rd_T39 l0_1 x15_1).f0) t286 _ ?sideG ?side1 ?side2 A14.out).mono ?_; (case sideG => first | exact HG.out | exact Tab.below HG.out hB_)
          (case side1 => repeat (first | exact (Kd.R_reads' HO285.out).2.2 | (with_reducible refine Kd.C_alloc ?_ _) | (with_reducible refine Kd.C_drewN ?_ _) | (with_reducible refine Kd.C_drew ?_)))
          (case side2 => exact (Kd.R_reads' HO285.out).2.1)
          rintro e w98 ⟨v287, rfl, ho0, hb⟩
          refine ⟨_, rfl, ?_⟩
          have n0_ := Aside0.mk (Kd.R_below (uR_ HO281.out) hb)
          have n1_ := Aside0.mk (Kd.R_below (uR_ HO285.out) hb)
          have n2_ := Aside0.mk (Kd.R_lower ho0 (qap (hB3_ GE272.out GE275.out GE282.out)))
          have n3_ := Aside0.mk (qaq (g := gb272) (o := .cells #[.int .i64 a0_0, .slice (some ad274) l0_1.length c0_1] 30 (0, 0)) (uB_ BK272.out) hb)
          have n4_ := Aside0.mk (qaq (g := gb275) (o := .cells #[.int .i64 ((rd_T39 l0_1 x15_1).f0), .int .i64 ((rd_T39 l0_1 x15_1).f1)] 39 (0, 0)) (uB_ BK275.out) hb)
          have n5_ := Aside0.mk (qaq (g := gb282) (o := .cells #[.int .i64 a0_0, .slice Ao91 t279.length co91] 30 (0, 0)) (uB_ BK282.out) hb)
          have n6_ := Aside0.mk (qao (hB3_ GE272.out GE275.out GE282.out) hb)
          clear HO281
          clear HO285
          clear BK272
          clear BK275
          clear BK282
          clear HB
          have HO281 := n0_
          have HO285 := n1_
          have HO288 := n2_
          have BK272 := n3_
          have BK275 := n4_
          have BK282 := n5_
          have HB := n6_
          clear n0_ n1_ n2_ n3_ n4_ n5_ n6_
          (try clear hb)
          (try clear hb2)
          (try clear hk)
          (try clear hi)
          (try clear ho0)
          obtain ⟨Ao99, co99, eo99⟩ := Kd.R_slice HO288.out
          (first | subst eo99 | (injection eo99 with f1_ f2_ f3_; have f4_ := f1_.symm; have f5_ := f3_.symm; clear f1_ f2_ f3_; subst f4_; subst f5_))
          have p289 : 0 ≤ (((rd_T39 l0_1 x15_1).f1) : Int) := oD_
          have q289 : ((rd_T39 l0_1 x15_1).f1) < (t286.length : Int) := oD_
          obtain ⟨ad289, e289, hx289_0⟩ := Kd.at_int (Kd.R_reads' HO288.out).2.2 ((rd_T39 l0_1 x15_1).f1) p289 q289
          cases e289
          replace p289 := eq_true p289
          replace q289 := eq_true q289
          refine hK.out _ _ ⟨(qaa BK282.out 0).trans rfl, (qaa BK282.out 1).trans rfl, (qaa BK275.out 0).trans rfl, (qaa BK275.out 1).trans rfl⟩ (fun hHeld => ?_)
          clear hK K
          refine norm_ (a' := ?_) ?_ ?_
          rotate_left
          ·show Act.put _ (some 34) _ = _
           simp only [Act.put, sP_, qai, qaj]
           rfl
          refine qan (i := 7) (N := some 37) (v := ?_) (a' := ?_) #[tT,tT,tT,tT,tT,tT,tT,tT,fF,fF] rfl rfl (aO_ HT_.out) (fun _ _ _ h => h) (.inl ⟨by rfl, ?_⟩) ?_ ?_
          rotate_left
          ·intro w'
           go_simp
           with_reducible rfl
          rotate_left
          ·simp only [Act.put, sP_, qai, qaj]
           rfl
          refine one_ (i := 8) (N := some 38) #[tT,tT,tT,tT,tT,tT,tT,tT,tT,fF] rfl rfl (one_of HT_.out (by kernel_rfl)) (by decide) (fun K hK => ?_)
          refine event_step (v := .int .i64 (rd t286 ((rd_T39 l0_1 x15_1).f1))) (by rfl) (by go_simp; with_reducible rfl) ?_
          refine hK.out _ _ hHeld (fun hHeld => ?_)
          clear hK K
          refine norm_ (a' := ?_) ?_ ?_
          rotate_left
          ·show Act.put _ (some 38) _ = _
           simp only [Act.put, sP_, qai, qaj]
           rfl
          refine qan (i := 9) (N := some 8) (v := ?_) (a' := ?_) #[tT,tT,tT,tT,tT,tT,tT,tT,tT,tT] rfl rfl (aO_ HT_.out) (fun _ _ _ h => h) (.inl ⟨by rfl, ?_⟩) ?_ ?_
          rotate_left
          ·intro w'
           go_simp
           with_reducible rfl
          rotate_left
          ·simp only [Act.put, sP_, qai, qaj]
           rfl
          refine done_ (done_of HT_.out (by kernel_rfl)) ?_
          try go_wp2
          go_roundg k1
          case measure => have := HK1.out; omega
          case rel => exact ⟨(x4_1), (wrap64 (x15_1 + 1)), rS_, rS_, H', ⟨by have := HK1.out; omega⟩, ⟨by (with_reducible repeat (first | refine qad ?_ _ | refine qab ?_ | refine qae ?_ _)); exact BK272.out⟩, ⟨by repeat (first | (with_reducible first | exact HB.out | apply qal | apply qac | apply qaf | refine qag ?_ GE272.out | refine qag ?_ GE275.out | refine qag ?_ GE282.out) | exact HB.out)⟩⟩
        ·rw [if_neg c16] at H
         exact absurd H (by simp)
       ·rw [if_neg c15] at H
        exact absurd H (by simp)
      ·rw [if_neg c10] at H
       exact absurd H (by simp)
     ·rw [if_neg c9] at H
      exact absurd H (by simp)
    ·rw [if_neg c8] at H
     have c8b0 : decide (x15_1 < (l0_1.length : Int)) = false := decide_eq_false c8
     clear c8
     simp only [Option.some.injEq, Prod.mk.injEq] at H
     obtain ⟨rfl, rfl⟩ := H
     go_wp2
     go_ret2
     exact ⟨by first | rfl | (simp [errW_none, errW_some] <;> rfl) | (simp [*, errW_none, errW_some] <;> rfl), by repeat (first | (with_reducible first | exact HB.out | apply qal | apply qac | apply qaf | refine qag ?_ GE272.out) | exact HB.out)⟩
 ·replace c3 := Bool.eq_false_iff.mpr c3
  subst c3
  have H1 : (some (0, false)) = some (r1, r2) := by rw [if_neg (show ¬ (false = true) by decide)] at H; exact H
  clear H
  have H := H1
  clear H1
  simp only [Option.some.injEq, Prod.mk.injEq] at H
  obtain ⟨rfl, rfl⟩ := H
  go_enter Tryd.func7, Tryd.ntmps7
  go_wp2_with (first | ((with_reducible refine gate_dst (N := 1) rfl ?_); refine box_event ?hg (N := 1) ?hd (cs := #[.int .i64 a0_0, .slice A0_1 l0_1.length c0_1]) (t := 30) ?hr ?_; (case hd => rfl); (case hg => rfl); (case hr => first | (go_simp; done) | (go_simp; rfl)); intro gb272 hg w100 hbox hb; have n0_ := Aside0.mk (qao hB_ hb); have n1_ := Aside0.mk (hbox); have n2_ := Aside0.mk ((by rw [hg]; exact (qap hB_) : w.heap.size ≤ gb272)); have n3_ := n2_; clear HB; have HB := n0_; have BK272 := n1_; have GW272 := n2_; have GE272 := n3_; clear n0_ n1_ n2_ n3_; clear hb hbox hg; have hcz101_0 : w100.cell? ⟨gb272, 0, none⟩ = some (.int .i64 a0_0) := (qaa BK272.out 0).trans rfl; have hcz101_1 : w100.cell? ⟨gb272, 1, none⟩ = some (.slice A0_1 l0_1.length c0_1) := (qaa BK272.out 1).trans rfl; have hfz101_0 := qam BK272.out 0; have hfz101_1 := qam BK272.out 1) | ((with_reducible refine gate_callee (f := 14) rfl ?_); refine goesL_ (some 10) rfl rfl Tryd.func14 (by kernel_rfl) rfl #[.agg #[.int .i64 a0_0, .slice A0_1 l0_1.length c0_1]] rfl mT_ ?_; (with_reducible refine (impl_IsParty.calls k a0_0 _ _ l0_1 false _ ?side1 ?side2 A2.out).mono ?_); (case side1 => repeat (first | exact (Kd.C_below HR0_1.out HB.out) | (with_reducible refine Kd.C_alloc ?_ _) | (with_reducible refine Kd.C_drewN ?_ _) | (with_reducible refine Kd.C_drew ?_))); (case side2 => exact HC0_1.out); rintro e w102 ⟨rfl, hb⟩; refine ⟨_, rfl, ?_⟩; have n0_ := Aside0.mk (qaq (g := gb272) (o := .cells #[.int .i64 a0_0, .slice A0_1 l0_1.length c0_1] 30 (0, 0)) (uB_ BK272.out) hb); have n1_ := Aside0.mk (qao (hB1_ GE272.out) hb); clear BK272; clear HB; have BK272 := n0_; have HB := n1_; clear n0_ n1_; (try clear hb); (try clear hb2); (try clear hk); (try clear hi)))
  go_ret2
  exact ⟨by first | rfl | (simp [errW_none, errW_some] <;> rfl) | (simp [*, errW_none, errW_some] <;> rfl), by repeat (first | (with_reducible first | exact HB.out | apply qal | apply qac | apply qaf | refine qag ?_ GE272.out) | exact HB.out)⟩

end Go.Proofs.YtbamgkgcoedliaaDoor.Q
