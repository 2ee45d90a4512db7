-- Written by wip/tools/gprint.py (the kit's print, with contracts of this session): Lean checks it.
import Derived.Test.YtbamgkgcoedliaaDoorQ0
import Derived.Test.YtbamgkgcoedliaaDoorQ6
import Derived.Test.YtbamgkgcoedliaaDoorQ7
import Derived.Test.YtbamgkgcoedliaaDoorQ9
namespace Go.Proofs.YtbamgkgcoedliaaDoor.Q
open Go.RowKit Go.Proofs.YtbamgkgcoedliaaDoorW.PrintWords Go.Proofs.YtbamgkgcoedliaaDoorW.PrintLast Go.Proofs.YtbamgkgcoedliaaDoorW.PrintMore
attribute [local go_sem] max2_int min2_int max_two min_two max_three min_three max_four min_four   -- for this text's walks alone
set_option linter.unusedVariables false
set_option linter.unusedSimpArgs false

/-! ### spec_ShortestRound: function 5 -/
def spec_ShortestRound.l0 : Nat → Int → List (List Bool) → List (S39) → Int → Int → Option (Int × Bool)
 | 0, _, _, _, _, _ => none
 | k + 1, x4, x5, x15, x16, x17 => if x17 < x16 then (if 0 ≤ x17 then (if x17 < (x15.length : Int) then (if 0 ≤ ((rd_T39 x15 x17).f0) then (if ((rd_T39 x15 x17).f0) < (x5.length : Int) then (if 0 ≤ ((rd_T39 x15 x17).f1) then (if ((rd_T39 x15 x17).f1) < ((rd_L4 x5 ((rd_T39 x15 x17).f0)).length : Int) then ((some (x5.set (((rd_T39 x15 x17).f0) : Int).toNat ((rd_L4 x5 ((rd_T39 x15 x17).f0)).set (((rd_T39 x15 x17).f1) : Int).toNat false) : List (List Bool))).bind fun y166 => (if ((rd_T39 x15 x17).f1) < (x5.length : Int) then (if ((rd_T39 x15 x17).f0) < ((rd_L4 y166 ((rd_T39 x15 x17).f1)).length : Int) then ((some (y166.set (((rd_T39 x15 x17).f1) : Int).toNat ((rd_L4 y166 ((rd_T39 x15 x17).f1)).set (((rd_T39 x15 x17).f0) : Int).toNat false) : List (List Bool))).bind fun y170 => ((spec_cfDistances.f k y170 ((rd_T39 x15 x17).f0)).bind fun t171 => (if ((rd_T39 x15 x17).f1) < (t171.length : Int) then (if (rd t171 ((rd_T39 x15 x17).f1)) > 0 then (if x4 = 0 then (if ((rd_T39 x15 x17).f1) < ((rd_L4 y170 ((rd_T39 x15 x17).f0)).length : Int) then ((some (y170.set (((rd_T39 x15 x17).f0) : Int).toNat ((rd_L4 y170 ((rd_T39 x15 x17).f0)).set (((rd_T39 x15 x17).f1) : Int).toNat true) : List (List Bool))).bind fun y178 => (if ((rd_T39 x15 x17).f0) < ((rd_L4 y178 ((rd_T39 x15 x17).f1)).length : Int) then (spec_ShortestRound.l0 k (wrap64 ((rd t171 ((rd_T39 x15 x17).f1)) + 1)) (y178.set (((rd_T39 x15 x17).f1) : Int).toNat ((rd_L4 y178 ((rd_T39 x15 x17).f1)).set (((rd_T39 x15 x17).f0) : Int).toNat true)) x15 x16 (wrap64 (x17 + 1))) else (none))) else (none)) else (if (wrap64 ((rd t171 ((rd_T39 x15 x17).f1)) + 1)) < x4 then (if ((rd_T39 x15 x17).f1) < ((rd_L4 y170 ((rd_T39 x15 x17).f0)).length : Int) then ((some (y170.set (((rd_T39 x15 x17).f0) : Int).toNat ((rd_L4 y170 ((rd_T39 x15 x17).f0)).set (((rd_T39 x15 x17).f1) : Int).toNat true) : List (List Bool))).bind fun y186 => (if ((rd_T39 x15 x17).f0) < ((rd_L4 y186 ((rd_T39 x15 x17).f1)).length : Int) then (spec_ShortestRound.l0 k (wrap64 ((rd t171 ((rd_T39 x15 x17).f1)) + 1)) (y186.set (((rd_T39 x15 x17).f1) : Int).toNat ((rd_L4 y186 ((rd_T39 x15 x17).f1)).set (((rd_T39 x15 x17).f0) : Int).toNat true)) x15 x16 (wrap64 (x17 + 1))) else (none))) else (none)) else (if ((rd_T39 x15 x17).f1) < ((rd_L4 y170 ((rd_T39 x15 x17).f0)).length : Int) then ((some (y170.set (((rd_T39 x15 x17).f0) : Int).toNat ((rd_L4 y170 ((rd_T39 x15 x17).f0)).set (((rd_T39 x15 x17).f1) : Int).toNat true) : List (List Bool))).bind fun y194 => (if ((rd_T39 x15 x17).f0) < ((rd_L4 y194 ((rd_T39 x15 x17).f1)).length : Int) then (spec_ShortestRound.l0 k x4 (y194.set (((rd_T39 x15 x17).f1) : Int).toNat ((rd_L4 y194 ((rd_T39 x15 x17).f1)).set (((rd_T39 x15 x17).f0) : Int).toNat true)) x15 x16 (wrap64 (x17 + 1))) else (none))) else (none)))) else (if ((rd_T39 x15 x17).f1) < ((rd_L4 y170 ((rd_T39 x15 x17).f0)).length : Int) then ((some (y170.set (((rd_T39 x15 x17).f0) : Int).toNat ((rd_L4 y170 ((rd_T39 x15 x17).f0)).set (((rd_T39 x15 x17).f1) : Int).toNat true) : List (List Bool))).bind fun y202 => (if ((rd_T39 x15 x17).f0) < ((rd_L4 y202 ((rd_T39 x15 x17).f1)).length : Int) then (spec_ShortestRound.l0 k x4 (y202.set (((rd_T39 x15 x17).f1) : Int).toNat ((rd_L4 y202 ((rd_T39 x15 x17).f1)).set (((rd_T39 x15 x17).f0) : Int).toNat true)) x15 x16 (wrap64 (x17 + 1))) else (none))) else (none))) else (none)))) else (none)) else (none))) else (none)) else (none)) else (none)) else (none)) else (none)) else (none)) else (some (x4, decide (x4 > 0)))
def spec_ShortestRound.f (k : Nat) (a0_0 : Int) (l0_1 : List (S39)) : Option (Int × Bool) := (spec_paGood.f k a0_0 l0_1).bind fun t157 => (if t157 = true then ((spec_paTable.f k a0_0 l0_1).bind fun t158 => (spec_ShortestRound.l0 k 0 t158 l0_1 (l0_1.length : Int) 0)) else (some (0, false)))
theorem spec_ShortestRound.mono_l : ∀ k, (∀ y0 y1 y2 y3 y4, LeO (spec_ShortestRound.l0 k y0 y1 y2 y3 y4) (spec_ShortestRound.l0 (k + 1) y0 y1 y2 y3 y4))
 | 0 => fun _ _ _ _ _ r h => by simp [spec_ShortestRound.l0] at h
 | k + 1 => by
  have ih0 := spec_ShortestRound.mono_l k
  ·intro y0 y1 y2 y3 y4
   unfold spec_ShortestRound.l0
   repeat' first
   | (with_reducible exact ih0 _ _ _ _ _)
   | (with_reducible exact spec_cfDistances.mono _ _ _)
   | (with_reducible exact spec_paGood.mono _ _ _)
   | (with_reducible exact spec_paTable.mono _ _ _)
   | (with_reducible exact LeO.refl _)
   | (with_reducible exact LeO.none _)
   | (with_reducible refine LeO.ite ?_ ?_)
   | (with_reducible refine LeO.bind ?_ (fun _ => ?_))
   | exact ih0 _ _ _ _ _
   | exact spec_cfDistances.mono _ _ _
   | exact spec_paGood.mono _ _ _
   | exact spec_paTable.mono _ _ _
   | exact LeO.none _
   | refine LeO.ite ?_ ?_
   | refine LeO.bind ?_ (fun _ => ?_)
theorem spec_ShortestRound.mono : ∀ a0 a1 k, LeO (spec_ShortestRound.f k a0 a1) (spec_ShortestRound.f (k + 1) a0 a1) := by
 intro a0 a1 k
 have ih0 := spec_ShortestRound.mono_l k
 unfold spec_ShortestRound.f
 repeat' first
   | (with_reducible exact ih0 _ _ _ _ _)
   | (with_reducible exact spec_cfDistances.mono _ _ _)
   | (with_reducible exact spec_paGood.mono _ _ _)
   | (with_reducible exact spec_paTable.mono _ _ _)
   | (with_reducible exact LeO.refl _)
   | (with_reducible exact LeO.none _)
   | (with_reducible refine LeO.ite ?_ ?_)
   | (with_reducible refine LeO.bind ?_ (fun _ => ?_))
   | exact ih0 _ _ _ _ _
   | exact spec_cfDistances.mono _ _ _
   | exact spec_paGood.mono _ _ _
   | exact spec_paTable.mono _ _ _
   | exact LeO.none _
   | refine LeO.ite ?_ ?_
   | refine LeO.bind ?_ (fun _ => ?_)
def spec_ShortestRound.T8 : Bool × List (List Nat × List Nat) := (true, [([], []), ([], []), ([1], [1]), ([0, 2], [0, 2]), ([3], [3]), ([], []), ([5], [5]), ([4, 6, 0, 1, 2, 3, 4, 5, 6], [4, 6]), ([7, 0, 1, 2, 3, 4, 5, 6], [7])])
def spec_ShortestRound.B8 : List Nat := [0, 0, 2, 7, 15, 0, 32, 127, 255]
theorem spec_ShortestRound.tab8 : rtab .any (opsOf Tryd.f5 8) = spec_ShortestRound.T8 := by kernel_rfl
theorem spec_ShortestRound.bits8 : waitsOk spec_ShortestRound.T8.2 spec_ShortestRound.B8 = true := by kernel_rfl
def spec_ShortestRound.T9 : Bool × List (List Nat × List Nat) := (true, [([], []), ([], []), ([1], [1]), ([0, 2], [0, 2]), ([3], [3]), ([], []), ([5], [5]), ([4, 6, 0, 1, 2, 3, 4, 5, 6], [4, 6]), ([7, 0, 1, 2, 3, 4, 5, 6], [7])])
def spec_ShortestRound.B9 : List Nat := [0, 0, 2, 7, 15, 0, 32, 127, 255]
theorem spec_ShortestRound.tab9 : rtab .any (opsOf Tryd.f5 9) = spec_ShortestRound.T9 := by kernel_rfl
theorem spec_ShortestRound.bits9 : waitsOk spec_ShortestRound.T9.2 spec_ShortestRound.B9 = true := by kernel_rfl
def spec_ShortestRound.T10 : Bool × List (List Nat × List Nat) := (true, [([], []), ([], []), ([1], [1]), ([0, 2], [0, 2]), ([], []), ([4], [4]), ([3, 5], [3, 5]), ([6], [6]), ([7, 3, 0, 1, 2, 3, 4, 5, 6, 7], [7])])
def spec_ShortestRound.B10 : List Nat := [0, 0, 2, 7, 0, 16, 63, 127, 255]
theorem spec_ShortestRound.tab10 : rtab .any (opsOf Tryd.f5 10) = spec_ShortestRound.T10 := by kernel_rfl
theorem spec_ShortestRound.bits10 : waitsOk spec_ShortestRound.T10.2 spec_ShortestRound.B10 = true := by kernel_rfl
def spec_ShortestRound.T13 : Bool × List (List Nat × List Nat) := (true, [([], []), ([], []), ([1], [1]), ([0, 2], [0, 2]), ([3], [3]), ([], []), ([5], [5]), ([4, 6, 0, 1, 2, 3, 4, 5, 6], [4, 6]), ([7, 0, 1, 2, 3, 4, 5, 6], [7])])
def spec_ShortestRound.B13 : List Nat := [0, 0, 2, 7, 15, 0, 32, 127, 255]
theorem spec_ShortestRound.tab13 : rtab .any (opsOf Tryd.f5 13) = spec_ShortestRound.T13 := by kernel_rfl
theorem spec_ShortestRound.bits13 : waitsOk spec_ShortestRound.T13.2 spec_ShortestRound.B13 = true := by kernel_rfl
def spec_ShortestRound.T14 : Bool × List (List Nat × List Nat) := (true, [([], []), ([], []), ([1], [1]), ([0, 2], [0, 2]), ([3], [3]), ([], []), ([5], [5]), ([4, 6, 0, 1, 2, 3, 4, 5, 6], [4, 6]), ([7, 0, 1, 2, 3, 4, 5, 6], [7])])
def spec_ShortestRound.B14 : List Nat := [0, 0, 2, 7, 15, 0, 32, 127, 255]
theorem spec_ShortestRound.tab14 : rtab .any (opsOf Tryd.f5 14) = spec_ShortestRound.T14 := by kernel_rfl
theorem spec_ShortestRound.bits14 : waitsOk spec_ShortestRound.T14.2 spec_ShortestRound.B14 = true := by kernel_rfl
set_option maxHeartbeats 8000000 in
set_option maxRecDepth 100000 in
theorem spec_ShortestRound.calls (k : Nat) (a0_0 : Int) (A0_1 : Option Addr) (c0_1 : Nat) (l0_1 : List (S39)) (r1 : Int) (r2 : Bool) (w : World) (hr0_1 : Kd.C k39 w A0_1 l0_1.length l0_1) (hc0_1 : l0_1.length ≤ c0_1) (h : spec_ShortestRound.f k a0_0 l0_1 = some (r1, r2)) :
  Calls Tryd.prog 5 #[.agg #[.int .i64 a0_0, .slice A0_1 l0_1.length c0_1]] w fun e w' => e = .returned (.tuple #[.int .i64 r1, .bool r2]) ∧ Below w.heap.size w w' := by
 have hu30 := Tryd.underlying30
 have hu39 := Tryd.underlying39
 have HR0_1 := Aside0.mk hr0_1
 have HC0_1 := Aside0.mk hc0_1
 clear hr0_1 hc0_1
 have HB := Aside0.mk (Below.refl w.heap.size w)
 have H : ((spec_paGood.f k a0_0 l0_1).bind fun t157 => (if t157 = true then ((spec_paTable.f k a0_0 l0_1).bind fun t158 => (spec_ShortestRound.l0 k 0 t158 l0_1 (l0_1.length : Int) 0)) else (some (0, false)))) = some (r1, r2) := h
 clear h
 replace H := Option.bind_eq_some_iff.mp H
 obtain ⟨t157, A20, H⟩ := H
 replace H : (if t157 = true then ((spec_paTable.f k a0_0 l0_1).bind fun t158 => (spec_ShortestRound.l0 k 0 t158 l0_1 (l0_1.length : Int) 0)) else (some (0, false))) = some (r1, r2) := H
 have A2 := Aside0.mk A20
 clear A20
 by_cases c3 : t157 = true
 ·subst c3
  have H1 : ((spec_paTable.f k a0_0 l0_1).bind fun t158 => (spec_ShortestRound.l0 k 0 t158 l0_1 (l0_1.length : Int) 0)) = some (r1, r2) := by rw [if_pos rfl] at H; exact H
  clear H
  have H := H1
  clear H1
  replace H := Option.bind_eq_some_iff.mp H
  obtain ⟨t158, A40, H⟩ := H
  replace H : (spec_ShortestRound.l0 k 0 t158 l0_1 (l0_1.length : Int) 0) = some (r1, r2) := H
  have A4 := Aside0.mk A40
  clear A40
  have H' := Aside0.mk H
  clear H
  go_enter Tryd.func5, Tryd.ntmps5
  go_wp2_with (first | ((with_reducible refine gate_dst (N := 1) rfl ?_); refine box_event ?hg (N := 1) ?hd (cs := #[.int .i64 a0_0, .slice A0_1 l0_1.length c0_1]) (t := 30) ?hr ?_; (case hd => rfl); (case hg => rfl); (case hr => first | (go_simp; done) | (go_simp; rfl)); intro gb156 hg w5 hbox hb; have n0_ := Aside0.mk (qao hB_ hb); have n1_ := Aside0.mk (hbox); have n2_ := Aside0.mk ((by rw [hg]; exact (qap hB_) : w.heap.size ≤ gb156)); have n3_ := n2_; clear HB; have HB := n0_; have BK156 := n1_; have GW156 := n2_; have GE156 := n3_; clear n0_ n1_ n2_ n3_; clear hb hbox hg; have hcz6_0 : w5.cell? ⟨gb156, 0, none⟩ = some (.int .i64 a0_0) := (qaa BK156.out 0).trans rfl; have hcz6_1 : w5.cell? ⟨gb156, 1, none⟩ = some (.slice A0_1 l0_1.length c0_1) := (qaa BK156.out 1).trans rfl; have hfz6_0 := qam BK156.out 0; have hfz6_1 := qam BK156.out 1) | ((with_reducible refine gate_callee (f := 10) rfl ?_); refine goesL_ (some 10) rfl rfl Tryd.func10 (by kernel_rfl) rfl #[.agg #[.int .i64 a0_0, .slice A0_1 l0_1.length c0_1]] rfl mT_ ?_; (with_reducible refine (spec_paGood.calls k a0_0 _ _ l0_1 true _ ?side1 ?side2 A2.out).mono ?_); (case side1 => repeat (first | exact (Kd.C_below HR0_1.out HB.out) | (with_reducible refine Kd.C_alloc ?_ _) | (with_reducible refine Kd.C_drewN ?_ _) | (with_reducible refine Kd.C_drew ?_))); (case side2 => exact HC0_1.out); rintro e w7 ⟨rfl, hb⟩; refine ⟨_, rfl, ?_⟩; have n0_ := Aside0.mk (qaq (g := gb156) (o := .cells #[.int .i64 a0_0, .slice A0_1 l0_1.length c0_1] 30 (0, 0)) (uB_ BK156.out) hb); have n1_ := Aside0.mk (qao (hB1_ GE156.out) hb); clear BK156; clear HB; have BK156 := n0_; have HB := n1_; clear n0_ n1_; (try clear hb); (try clear hb2); (try clear hk); (try clear hi); have hcz8_0 : w7.cell? ⟨gb156, 0, none⟩ = some (.int .i64 a0_0) := (qaa BK156.out 0).trans rfl; have hcz8_1 : w7.cell? ⟨gb156, 1, none⟩ = some (.slice A0_1 l0_1.length c0_1) := (qaa BK156.out 1).trans rfl; have hfz8_0 := qam BK156.out 0; have hfz8_1 := qam BK156.out 1) | ((with_reducible refine gate_callee (f := 11) rfl ?_); refine goesL_ (some 13) rfl rfl Tryd.func11 (by kernel_rfl) rfl #[.agg #[.int .i64 a0_0, .slice A0_1 l0_1.length c0_1]] rfl mT_ ?_; (with_reducible refine (spec_paTable.calls k a0_0 _ _ l0_1 t158 _ ?side1 ?side2 A4.out).mono ?_); (case side1 => repeat (first | exact (Kd.C_below HR0_1.out HB.out) | (with_reducible refine Kd.C_alloc ?_ _) | (with_reducible refine Kd.C_drewN ?_ _) | (with_reducible refine Kd.C_drew ?_))); (case side2 => exact HC0_1.out); rintro e w9 ⟨v159, rfl, ho0, hb⟩; refine ⟨_, rfl, ?_⟩; have n0_ := Aside0.mk (Kd.S_lower ho0 (qap (hB1_ GE156.out))); have n1_ := Aside0.mk (qaq (g := gb156) (o := .cells #[.int .i64 a0_0, .slice A0_1 l0_1.length c0_1] 30 (0, 0)) (uB_ BK156.out) hb); have n2_ := Aside0.mk (qao (hB1_ GE156.out) hb); clear BK156; clear HB; have HO160 := n0_; have BK156 := n1_; have HB := n2_; clear n0_ n1_ n2_; (try clear hb); (try clear hb2); (try clear hk); (try clear hi); (try clear ho0); have hcz10_0 : w9.cell? ⟨gb156, 0, none⟩ = some (.int .i64 a0_0) := (qaa BK156.out 0).trans rfl; have hcz10_1 : w9.cell? ⟨gb156, 1, none⟩ = some (.slice A0_1 l0_1.length c0_1) := (qaa BK156.out 1).trans rfl; have hfz10_0 := qam BK156.out 0; have hfz10_1 := qam BK156.out 1))
  go_loopg [4, 17] k (fun kq v4 v17 w' => ∃ (x4_1 : Int) (x5_1 : List (List Bool)) (x17_1 : Int), v4 = .int .i64 x4_1 ∧ v17 = .int .i64 x17_1 ∧ Aside0 (spec_ShortestRound.l0 kq x4_1 x5_1 l0_1 (l0_1.length : Int) x17_1 = some (r1, r2)) ∧ Aside0 (kq ≤ k) ∧ Aside0 (Kd.S (Kd.slice 4 Kd.bool) 40 w' w.heap.size (fun _ => True) v159 x5_1) ∧ Aside0 (w'.heap[gb156]? = some (.cells #[.int .i64 a0_0, (.slice A0_1 l0_1.length c0_1)] 30 (0, 0))) ∧ Aside0 (Below w.heap.size w w'))
  case atStart => exact ⟨(0), (t158), (0), rS_, rS_, H', ⟨Nat.le_refl _⟩, ⟨by (with_reducible repeat (first | apply Kd.S_alloc | apply Kd.S_drewN | apply Kd.S_drew)); exact HO160.out⟩, ⟨by (with_reducible repeat (first | refine qad ?_ _ | refine qab ?_ | refine qae ?_ _)); exact BK156.out⟩, ⟨by repeat (first | (with_reducible first | exact HB.out | apply qal | apply qac | apply qaf | refine qag ?_ GE156.out) | exact HB.out)⟩⟩
  case round =>
   clear H'
   obtain ⟨x4_1, x5_1, x17_1, rfl, rfl, HA, HK1, HO_5, BK156, HB⟩ := hrel
   cases gk with
   | zero => exact absurd HA.out (by simp [spec_ShortestRound.l0])
   | succ k1 =>
    have H := HA.out
    clear HA
    simp only [spec_ShortestRound.l0] at H
    by_cases c11 : x17_1 < (l0_1.length : Int)
    ·rw [if_pos c11] at H
     have c11b0 : decide (x17_1 < (l0_1.length : Int)) = true := decide_eq_true c11
     clear c11
     by_cases c12 : 0 ≤ x17_1
     ·rw [if_pos c12] at H
      have c12b0 : decide (0 ≤ x17_1) = true := decide_eq_true c12
      clear c12
      by_cases c13 : x17_1 < (l0_1.length : Int)
      ·rw [if_pos c13] at H
       have c13b0 : decide (x17_1 < (l0_1.length : Int)) = true := decide_eq_true c13
       clear c13
       by_cases c14 : 0 ≤ ((rd_T39 l0_1 x17_1).f0)
       ·rw [if_pos c14] at H
        have c14b0 : decide (0 ≤ ((rd_T39 l0_1 x17_1).f0)) = true := decide_eq_true c14
        clear c14
        by_cases c15 : ((rd_T39 l0_1 x17_1).f0) < (x5_1.length : Int)
        ·rw [if_pos c15] at H
         have c15b0 : decide (((rd_T39 l0_1 x17_1).f0) < (x5_1.length : Int)) = true := decide_eq_true c15
         clear c15
         by_cases c16 : 0 ≤ ((rd_T39 l0_1 x17_1).f1)
         ·rw [if_pos c16] at H
          have c16b0 : decide (0 ≤ ((rd_T39 l0_1 x17_1).f1)) = true := decide_eq_true c16
          clear c16
          by_cases c17 : ((rd_T39 l0_1 x17_1).f1) < ((rd_L4 x5_1 ((rd_T39 l0_1 x17_1).f0)).length : Int)
          ·rw [if_pos c17] at H
           have c17b0 : decide (((rd_T39 l0_1 x17_1).f1) < ((rd_L4 x5_1 ((rd_T39 l0_1 x17_1).f0)).length : Int)) = true := decide_eq_true c17
           clear c17
           obtain ⟨y164, hy164⟩ : ∃ y_ : List Bool, y_ = ((rd_L4 x5_1 ((rd_T39 l0_1 x17_1).f0)).set (((rd_T39 l0_1 x17_1).f1) : Int).toNat false) := ⟨_, rfl⟩
           replace H : ((some (x5_1.set (((rd_T39 l0_1 x17_1).f0) : Int).toNat y164 : List (List Bool))).bind fun y166 => (if ((rd_T39 l0_1 x17_1).f1) < (x5_1.length : Int) then (if ((rd_T39 l0_1 x17_1).f0) < ((rd_L4 y166 ((rd_T39 l0_1 x17_1).f1)).length : Int) then ((some (y166.set (((rd_T39 l0_1 x17_1).f1) : Int).toNat ((rd_L4 y166 ((rd_T39 l0_1 x17_1).f1)).set (((rd_T39 l0_1 x17_1).f0) : Int).toNat false) : List (List Bool))).bind fun y170 => ((spec_cfDistances.f k1 y170 ((rd_T39 l0_1 x17_1).f0)).bind fun t171 => (if ((rd_T39 l0_1 x17_1).f1) < (t171.length : Int) then (if (rd t171 ((rd_T39 l0_1 x17_1).f1)) > 0 then (if x4_1 = 0 then (if ((rd_T39 l0_1 x17_1).f1) < ((rd_L4 y170 ((rd_T39 l0_1 x17_1).f0)).length : Int) then ((some (y170.set (((rd_T39 l0_1 x17_1).f0) : Int).toNat ((rd_L4 y170 ((rd_T39 l0_1 x17_1).f0)).set (((rd_T39 l0_1 x17_1).f1) : Int).toNat true) : List (List Bool))).bind fun y178 => (if ((rd_T39 l0_1 x17_1).f0) < ((rd_L4 y178 ((rd_T39 l0_1 x17_1).f1)).length : Int) then (spec_ShortestRound.l0 k1 (wrap64 ((rd t171 ((rd_T39 l0_1 x17_1).f1)) + 1)) (y178.set (((rd_T39 l0_1 x17_1).f1) : Int).toNat ((rd_L4 y178 ((rd_T39 l0_1 x17_1).f1)).set (((rd_T39 l0_1 x17_1).f0) : Int).toNat true)) l0_1 (l0_1.length : Int) (wrap64 (x17_1 + 1))) else (none))) else (none)) else (if (wrap64 ((rd t171 ((rd_T39 l0_1 x17_1).f1)) + 1)) < x4_1 then (if ((rd_T39 l0_1 x17_1).f1) < ((rd_L4 y170 ((rd_T39 l0_1 x17_1).f0)).length : Int) then ((some (y170.set (((rd_T39 l0_1 x17_1).f0) : Int).toNat ((rd_L4 y170 ((rd_T39 l0_1 x17_1).f0)).set (((rd_T39 l0_1 x17_1).f1) : Int).toNat true) : List (List Bool))).bind fun y186 => (if ((rd_T39 l0_1 x17_1).f0) < ((rd_L4 y186 ((rd_T39 l0_1 x17_1).f1)).length : Int) then (spec_ShortestRound.l0 k1 (wrap64 ((rd t171 ((rd_T39 l0_1 x17_1).f1)) + 1)) (y186.set (((rd_T39 l0_1 x17_1).f1) : Int).toNat ((rd_L4 y186 ((rd_T39 l0_1 x17_1).f1)).set (((rd_T39 l0_1 x17_1).f0) : Int).toNat true)) l0_1 (l0_1.length : Int) (wrap64 (x17_1 + 1))) else (none))) else (none)) else (if ((rd_T39 l0_1 x17_1).f1) < ((rd_L4 y170 ((rd_T39 l0_1 x17_1).f0)).length : Int) then ((some (y170.set (((rd_T39 l0_1 x17_1).f0) : Int).toNat ((rd_L4 y170 ((rd_T39 l0_1 x17_1).f0)).set (((rd_T39 l0_1 x17_1).f1) : Int).toNat true) : List (List Bool))).bind fun y194 => (if ((rd_T39 l0_1 x17_1).f0) < ((rd_L4 y194 ((rd_T39 l0_1 x17_1).f1)).length : Int) then (spec_ShortestRound.l0 k1 x4_1 (y194.set (((rd_T39 l0_1 x17_1).f1) : Int).toNat ((rd_L4 y194 ((rd_T39 l0_1 x17_1).f1)).set (((rd_T39 l0_1 x17_1).f0) : Int).toNat true)) l0_1 (l0_1.length : Int) (wrap64 (x17_1 + 1))) else (none))) else (none)))) else (if ((rd_T39 l0_1 x17_1).f1) < ((rd_L4 y170 ((rd_T39 l0_1 x17_1).f0)).length : Int) then ((some (y170.set (((rd_T39 l0_1 x17_1).f0) : Int).toNat ((rd_L4 y170 ((rd_T39 l0_1 x17_1).f0)).set (((rd_T39 l0_1 x17_1).f1) : Int).toNat true) : List (List Bool))).bind fun y202 => (if ((rd_T39 l0_1 x17_1).f0) < ((rd_L4 y202 ((rd_T39 l0_1 x17_1).f1)).length : Int) then (spec_ShortestRound.l0 k1 x4_1 (y202.set (((rd_T39 l0_1 x17_1).f1) : Int).toNat ((rd_L4 y202 ((rd_T39 l0_1 x17_1).f1)).set (((rd_T39 l0_1 x17_1).f0) : Int).toNat true)) l0_1 (l0_1.length : Int) (wrap64 (x17_1 + 1))) else (none))) else (none))) else (none)))) else (none)) else (none))) = some (r1, r2) := by first | (rw [hy164]; with_reducible exact H) | (have H2_ := (Option.bind_some _ _).symm.trans H; rw [hy164]; with_reducible exact H2_) | (have H2_ := (Option.bind_some _ _).symm.trans H; with_reducible exact H2_) | with_reducible exact H | (rw [hy164]; exact H) | exact H
           have Ny164 := Aside0.mk hy164
           clear hy164
           obtain ⟨y166, hy166⟩ : ∃ y_ : List (List Bool), y_ = (x5_1.set (((rd_T39 l0_1 x17_1).f0) : Int).toNat y164) := ⟨_, rfl⟩
           replace H : (if ((rd_T39 l0_1 x17_1).f1) < (x5_1.length : Int) then (if ((rd_T39 l0_1 x17_1).f0) < ((rd_L4 y166 ((rd_T39 l0_1 x17_1).f1)).length : Int) then ((some (y166.set (((rd_T39 l0_1 x17_1).f1) : Int).toNat ((rd_L4 y166 ((rd_T39 l0_1 x17_1).f1)).set (((rd_T39 l0_1 x17_1).f0) : Int).toNat false) : List (List Bool))).bind fun y170 => ((spec_cfDistances.f k1 y170 ((rd_T39 l0_1 x17_1).f0)).bind fun t171 => (if ((rd_T39 l0_1 x17_1).f1) < (t171.length : Int) then (if (rd t171 ((rd_T39 l0_1 x17_1).f1)) > 0 then (if x4_1 = 0 then (if ((rd_T39 l0_1 x17_1).f1) < ((rd_L4 y170 ((rd_T39 l0_1 x17_1).f0)).length : Int) then ((some (y170.set (((rd_T39 l0_1 x17_1).f0) : Int).toNat ((rd_L4 y170 ((rd_T39 l0_1 x17_1).f0)).set (((rd_T39 l0_1 x17_1).f1) : Int).toNat true) : List (List Bool))).bind fun y178 => (if ((rd_T39 l0_1 x17_1).f0) < ((rd_L4 y178 ((rd_T39 l0_1 x17_1).f1)).length : Int) then (spec_ShortestRound.l0 k1 (wrap64 ((rd t171 ((rd_T39 l0_1 x17_1).f1)) + 1)) (y178.set (((rd_T39 l0_1 x17_1).f1) : Int).toNat ((rd_L4 y178 ((rd_T39 l0_1 x17_1).f1)).set (((rd_T39 l0_1 x17_1).f0) : Int).toNat true)) l0_1 (l0_1.length : Int) (wrap64 (x17_1 + 1))) else (none))) else (none)) else (if (wrap64 ((rd t171 ((rd_T39 l0_1 x17_1).f1)) + 1)) < x4_1 then (if ((rd_T39 l0_1 x17_1).f1) < ((rd_L4 y170 ((rd_T39 l0_1 x17_1).f0)).length : Int) then ((some (y170.set (((rd_T39 l0_1 x17_1).f0) : Int).toNat ((rd_L4 y170 ((rd_T39 l0_1 x17_1).f0)).set (((rd_T39 l0_1 x17_1).f1) : Int).toNat true) : List (List Bool))).bind fun y186 => (if ((rd_T39 l0_1 x17_1).f0) < ((rd_L4 y186 ((rd_T39 l0_1 x17_1).f1)).length : Int) then (spec_ShortestRound.l0 k1 (wrap64 ((rd t171 ((rd_T39 l0_1 x17_1).f1)) + 1)) (y186.set (((rd_T39 l0_1 x17_1).f1) : Int).toNat ((rd_L4 y186 ((rd_T39 l0_1 x17_1).f1)).set (((rd_T39 l0_1 x17_1).f0) : Int).toNat true)) l0_1 (l0_1.length : Int) (wrap64 (x17_1 + 1))) else (none))) else (none)) else (if ((rd_T39 l0_1 x17_1).f1) < ((rd_L4 y170 ((rd_T39 l0_1 x17_1).f0)).length : Int) then ((some (y170.set (((rd_T39 l0_1 x17_1).f0) : Int).toNat ((rd_L4 y170 ((rd_T39 l0_1 x17_1).f0)).set (((rd_T39 l0_1 x17_1).f1) : Int).toNat true) : List (List Bool))).bind fun y194 => (if ((rd_T39 l0_1 x17_1).f0) < ((rd_L4 y194 ((rd_T39 l0_1 x17_1).f1)).length : Int) then (spec_ShortestRound.l0 k1 x4_1 (y194.set (((rd_T39 l0_1 x17_1).f1) : Int).toNat ((rd_L4 y194 ((rd_T39 l0_1 x17_1).f1)).set (((rd_T39 l0_1 x17_1).f0) : Int).toNat true)) l0_1 (l0_1.length : Int) (wrap64 (x17_1 + 1))) else (none))) else (none)))) else (if ((rd_T39 l0_1 x17_1).f1) < ((rd_L4 y170 ((rd_T39 l0_1 x17_1).f0)).length : Int) then ((some (y170.set (((rd_T39 l0_1 x17_1).f0) : Int).toNat ((rd_L4 y170 ((rd_T39 l0_1 x17_1).f0)).set (((rd_T39 l0_1 x17_1).f1) : Int).toNat true) : List (List Bool))).bind fun y202 => (if ((rd_T39 l0_1 x17_1).f0) < ((rd_L4 y202 ((rd_T39 l0_1 x17_1).f1)).length : Int) then (spec_ShortestRound.l0 k1 x4_1 (y202.set (((rd_T39 l0_1 x17_1).f1) : Int).toNat ((rd_L4 y202 ((rd_T39 l0_1 x17_1).f1)).set (((rd_T39 l0_1 x17_1).f0) : Int).toNat true)) l0_1 (l0_1.length : Int) (wrap64 (x17_1 + 1))) else (none))) else (none))) else (none)))) else (none)) else (none)) = some (r1, r2) := by first | (rw [hy166]; with_reducible exact H) | (have H2_ := (Option.bind_some _ _).symm.trans H; rw [hy166]; with_reducible exact H2_) | (have H2_ := (Option.bind_some _ _).symm.trans H; with_reducible exact H2_) | with_reducible exact H | (rw [hy166]; exact H) | exact H
           have Ny166 := Aside0.mk hy166
           clear hy166
           by_cases c19 : ((rd_T39 l0_1 x17_1).f1) < (x5_1.length : Int)
           ·rw [if_pos c19] at H
            have c19b0 : decide (((rd_T39 l0_1 x17_1).f1) < (x5_1.length : Int)) = true := decide_eq_true c19
            clear c19
            by_cases c20 : ((rd_T39 l0_1 x17_1).f0) < ((rd_L4 y166 ((rd_T39 l0_1 x17_1).f1)).length : Int)
            ·rw [if_pos c20] at H
             have c20b0 : decide (((rd_T39 l0_1 x17_1).f0) < ((rd_L4 y166 ((rd_T39 l0_1 x17_1).f1)).length : Int)) = true := decide_eq_true c20
             clear c20
             obtain ⟨y168, hy168⟩ : ∃ y_ : List Bool, y_ = ((rd_L4 y166 ((rd_T39 l0_1 x17_1).f1)).set (((rd_T39 l0_1 x17_1).f0) : Int).toNat false) := ⟨_, rfl⟩
             replace H : ((some (y166.set (((rd_T39 l0_1 x17_1).f1) : Int).toNat y168 : List (List Bool))).bind fun y170 => ((spec_cfDistances.f k1 y170 ((rd_T39 l0_1 x17_1).f0)).bind fun t171 => (if ((rd_T39 l0_1 x17_1).f1) < (t171.length : Int) then (if (rd t171 ((rd_T39 l0_1 x17_1).f1)) > 0 then (if x4_1 = 0 then (if ((rd_T39 l0_1 x17_1).f1) < ((rd_L4 y170 ((rd_T39 l0_1 x17_1).f0)).length : Int) then ((some (y170.set (((rd_T39 l0_1 x17_1).f0) : Int).toNat ((rd_L4 y170 ((rd_T39 l0_1 x17_1).f0)).set (((rd_T39 l0_1 x17_1).f1) : Int).toNat true) : List (List Bool))).bind fun y178 => (if ((rd_T39 l0_1 x17_1).f0) < ((rd_L4 y178 ((rd_T39 l0_1 x17_1).f1)).length : Int) then (spec_ShortestRound.l0 k1 (wrap64 ((rd t171 ((rd_T39 l0_1 x17_1).f1)) + 1)) (y178.set (((rd_T39 l0_1 x17_1).f1) : Int).toNat ((rd_L4 y178 ((rd_T39 l0_1 x17_1).f1)).set (((rd_T39 l0_1 x17_1).f0) : Int).toNat true)) l0_1 (l0_1.length : Int) (wrap64 (x17_1 + 1))) else (none))) else (none)) else (if (wrap64 ((rd t171 ((rd_T39 l0_1 x17_1).f1)) + 1)) < x4_1 then (if ((rd_T39 l0_1 x17_1).f1) < ((rd_L4 y170 ((rd_T39 l0_1 x17_1).f0)).length : Int) then ((some (y170.set (((rd_T39 l0_1 x17_1).f0) : Int).toNat ((rd_L4 y170 ((rd_T39 l0_1 x17_1).f0)).set (((rd_T39 l0_1 x17_1).f1) : Int).toNat true) : List (List Bool))).bind fun y186 => (if ((rd_T39 l0_1 x17_1).f0) < ((rd_L4 y186 ((rd_T39 l0_1 x17_1).f1)).length : Int) then (spec_ShortestRound.l0 k1 (wrap64 ((rd t171 ((rd_T39 l0_1 x17_1).f1)) + 1)) (y186.set (((rd_T39 l0_1 x17_1).f1) : Int).toNat ((rd_L4 y186 ((rd_T39 l0_1 x17_1).f1)).set (((rd_T39 l0_1 x17_1).f0) : Int).toNat true)) l0_1 (l0_1.length : Int) (wrap64 (x17_1 + 1))) else (none))) else (none)) else (if ((rd_T39 l0_1 x17_1).f1) < ((rd_L4 y170 ((rd_T39 l0_1 x17_1).f0)).length : Int) then ((some (y170.set (((rd_T39 l0_1 x17_1).f0) : Int).toNat ((rd_L4 y170 ((rd_T39 l0_1 x17_1).f0)).set (((rd_T39 l0_1 x17_1).f1) : Int).toNat true) : List (List Bool))).bind fun y194 => (if ((rd_T39 l0_1 x17_1).f0) < ((rd_L4 y194 ((rd_T39 l0_1 x17_1).f1)).length : Int) then (spec_ShortestRound.l0 k1 x4_1 (y194.set (((rd_T39 l0_1 x17_1).f1) : Int).toNat ((rd_L4 y194 ((rd_T39 l0_1 x17_1).f1)).set (((rd_T39 l0_1 x17_1).f0) : Int).toNat true)) l0_1 (l0_1.length : Int) (wrap64 (x17_1 + 1))) else (none))) else (none)))) else (if ((rd_T39 l0_1 x17_1).f1) < ((rd_L4 y170 ((rd_T39 l0_1 x17_1).f0)).length : Int) then ((some (y170.set (((rd_T39 l0_1 x17_1).f0) : Int).toNat ((rd_L4 y170 ((rd_T39 l0_1 x17_1).f0)).set (((rd_T39 l0_1 x17_1).f1) : Int).toNat true) : List (List Bool))).bind fun y202 => (if ((rd_T39 l0_1 x17_1).f0) < ((rd_L4 y202 ((rd_T39 l0_1 x17_1).f1)).length : Int) then (spec_ShortestRound.l0 k1 x4_1 (y202.set (((rd_T39 l0_1 x17_1).f1) : Int).toNat ((rd_L4 y202 ((rd_T39 l0_1 x17_1).f1)).set (((rd_T39 l0_1 x17_1).f0) : Int).toNat true)) l0_1 (l0_1.length : Int) (wrap64 (x17_1 + 1))) else (none))) else (none))) else (none)))) = some (r1, r2) := by first | (rw [hy168]; with_reducible exact H) | (have H2_ := (Option.bind_some _ _).symm.trans H; rw [hy168]; with_reducible exact H2_) | (have H2_ := (Option.bind_some _ _).symm.trans H; with_reducible exact H2_) | with_reducible exact H | (rw [hy168]; exact H) | exact H
             have Ny168 := Aside0.mk hy168
             clear hy168
             obtain ⟨y170, hy170⟩ : ∃ y_ : List (List Bool), y_ = (y166.set (((rd_T39 l0_1 x17_1).f1) : Int).toNat y168) := ⟨_, rfl⟩
             replace H : ((spec_cfDistances.f k1 y170 ((rd_T39 l0_1 x17_1).f0)).bind fun t171 => (if ((rd_T39 l0_1 x17_1).f1) < (t171.length : Int) then (if (rd t171 ((rd_T39 l0_1 x17_1).f1)) > 0 then (if x4_1 = 0 then (if ((rd_T39 l0_1 x17_1).f1) < ((rd_L4 y170 ((rd_T39 l0_1 x17_1).f0)).length : Int) then ((some (y170.set (((rd_T39 l0_1 x17_1).f0) : Int).toNat ((rd_L4 y170 ((rd_T39 l0_1 x17_1).f0)).set (((rd_T39 l0_1 x17_1).f1) : Int).toNat true) : List (List Bool))).bind fun y178 => (if ((rd_T39 l0_1 x17_1).f0) < ((rd_L4 y178 ((rd_T39 l0_1 x17_1).f1)).length : Int) then (spec_ShortestRound.l0 k1 (wrap64 ((rd t171 ((rd_T39 l0_1 x17_1).f1)) + 1)) (y178.set (((rd_T39 l0_1 x17_1).f1) : Int).toNat ((rd_L4 y178 ((rd_T39 l0_1 x17_1).f1)).set (((rd_T39 l0_1 x17_1).f0) : Int).toNat true)) l0_1 (l0_1.length : Int) (wrap64 (x17_1 + 1))) else (none))) else (none)) else (if (wrap64 ((rd t171 ((rd_T39 l0_1 x17_1).f1)) + 1)) < x4_1 then (if ((rd_T39 l0_1 x17_1).f1) < ((rd_L4 y170 ((rd_T39 l0_1 x17_1).f0)).length : Int) then ((some (y170.set (((rd_T39 l0_1 x17_1).f0) : Int).toNat ((rd_L4 y170 ((rd_T39 l0_1 x17_1).f0)).set (((rd_T39 l0_1 x17_1).f1) : Int).toNat true) : List (List Bool))).bind fun y186 => (if ((rd_T39 l0_1 x17_1).f0) < ((rd_L4 y186 ((rd_T39 l0_1 x17_1).f1)).length : Int) then (spec_ShortestRound.l0 k1 (wrap64 ((rd t171 ((rd_T39 l0_1 x17_1).f1)) + 1)) (y186.set (((rd_T39 l0_1 x17_1).f1) : Int).toNat ((rd_L4 y186 ((rd_T39 l0_1 x17_1).f1)).set (((rd_T39 l0_1 x17_1).f0) : Int).toNat true)) l0_1 (l0_1.length : Int) (wrap64 (x17_1 + 1))) else (none))) else (none)) else (if ((rd_T39 l0_1 x17_1).f1) < ((rd_L4 y170 ((rd_T39 l0_1 x17_1).f0)).length : Int) then ((some (y170.set (((rd_T39 l0_1 x17_1).f0) : Int).toNat ((rd_L4 y170 ((rd_T39 l0_1 x17_1).f0)).set (((rd_T39 l0_1 x17_1).f1) : Int).toNat true) : List (List Bool))).bind fun y194 => (if ((rd_T39 l0_1 x17_1).f0) < ((rd_L4 y194 ((rd_T39 l0_1 x17_1).f1)).length : Int) then (spec_ShortestRound.l0 k1 x4_1 (y194.set (((rd_T39 l0_1 x17_1).f1) : Int).toNat ((rd_L4 y194 ((rd_T39 l0_1 x17_1).f1)).set (((rd_T39 l0_1 x17_1).f0) : Int).toNat true)) l0_1 (l0_1.length : Int) (wrap64 (x17_1 + 1))) else (none))) else (none)))) else (if ((rd_T39 l0_1 x17_1).f1) < ((rd_L4 y170 ((rd_T39 l0_1 x17_1).f0)).length : Int) then ((some (y170.set (((rd_T39 l0_1 x17_1).f0) : Int).toNat ((rd_L4 y170 ((rd_T39 l0_1 x17_1).f0)).set (((rd_T39 l0_1 x17_1).f1) : Int).toNat true) : List (List Bool))).bind fun y202 => (if ((rd_T39 l0_1 x17_1).f0) < ((rd_L4 y202 ((rd_T39 l0_1 x17_1).f1)).length : Int) then (spec_ShortestRound.l0 k1 x4_1 (y202.set (((rd_T39 l0_1 x17_1).f1) : Int).toNat ((rd_L4 y202 ((rd_T39 l0_1 x17_1).f1)).set (((rd_T39 l0_1 x17_1).f0) : Int).toNat true)) l0_1 (l0_1.length : Int) (wrap64 (x17_1 + 1))) else (none))) else (none))) else (none))) = some (r1, r2) := by first | (rw [hy170]; with_reducible exact H) | (have H2_ := (Option.bind_some _ _).symm.trans H; rw [hy170]; with_reducible exact H2_) | (have H2_ := (Option.bind_some _ _).symm.trans H; with_reducible exact H2_) | with_reducible exact H | (rw [hy170]; exact H) | exact H
             have Ny170 := Aside0.mk hy170
             clear hy170
             replace H := Option.bind_eq_some_iff.mp H
             obtain ⟨t171, A220, H⟩ := H
             replace H : (if ((rd_T39 l0_1 x17_1).f1) < (t171.length : Int) then (if (rd t171 ((rd_T39 l0_1 x17_1).f1)) > 0 then (if x4_1 = 0 then (if ((rd_T39 l0_1 x17_1).f1) < ((rd_L4 y170 ((rd_T39 l0_1 x17_1).f0)).length : Int) then ((some (y170.set (((rd_T39 l0_1 x17_1).f0) : Int).toNat ((rd_L4 y170 ((rd_T39 l0_1 x17_1).f0)).set (((rd_T39 l0_1 x17_1).f1) : Int).toNat true) : List (List Bool))).bind fun y178 => (if ((rd_T39 l0_1 x17_1).f0) < ((rd_L4 y178 ((rd_T39 l0_1 x17_1).f1)).length : Int) then (spec_ShortestRound.l0 k1 (wrap64 ((rd t171 ((rd_T39 l0_1 x17_1).f1)) + 1)) (y178.set (((rd_T39 l0_1 x17_1).f1) : Int).toNat ((rd_L4 y178 ((rd_T39 l0_1 x17_1).f1)).set (((rd_T39 l0_1 x17_1).f0) : Int).toNat true)) l0_1 (l0_1.length : Int) (wrap64 (x17_1 + 1))) else (none))) else (none)) else (if (wrap64 ((rd t171 ((rd_T39 l0_1 x17_1).f1)) + 1)) < x4_1 then (if ((rd_T39 l0_1 x17_1).f1) < ((rd_L4 y170 ((rd_T39 l0_1 x17_1).f0)).length : Int) then ((some (y170.set (((rd_T39 l0_1 x17_1).f0) : Int).toNat ((rd_L4 y170 ((rd_T39 l0_1 x17_1).f0)).set (((rd_T39 l0_1 x17_1).f1) : Int).toNat true) : List (List Bool))).bind fun y186 => (if ((rd_T39 l0_1 x17_1).f0) < ((rd_L4 y186 ((rd_T39 l0_1 x17_1).f1)).length : Int) then (spec_ShortestRound.l0 k1 (wrap64 ((rd t171 ((rd_T39 l0_1 x17_1).f1)) + 1)) (y186.set (((rd_T39 l0_1 x17_1).f1) : Int).toNat ((rd_L4 y186 ((rd_T39 l0_1 x17_1).f1)).set (((rd_T39 l0_1 x17_1).f0) : Int).toNat true)) l0_1 (l0_1.length : Int) (wrap64 (x17_1 + 1))) else (none))) else (none)) else (if ((rd_T39 l0_1 x17_1).f1) < ((rd_L4 y170 ((rd_T39 l0_1 x17_1).f0)).length : Int) then ((some (y170.set (((rd_T39 l0_1 x17_1).f0) : Int).toNat ((rd_L4 y170 ((rd_T39 l0_1 x17_1).f0)).set (((rd_T39 l0_1 x17_1).f1) : Int).toNat true) : List (List Bool))).bind fun y194 => (if ((rd_T39 l0_1 x17_1).f0) < ((rd_L4 y194 ((rd_T39 l0_1 x17_1).f1)).length : Int) then (spec_ShortestRound.l0 k1 x4_1 (y194.set (((rd_T39 l0_1 x17_1).f1) : Int).toNat ((rd_L4 y194 ((rd_T39 l0_1 x17_1).f1)).set (((rd_T39 l0_1 x17_1).f0) : Int).toNat true)) l0_1 (l0_1.length : Int) (wrap64 (x17_1 + 1))) else (none))) else (none)))) else (if ((rd_T39 l0_1 x17_1).f1) < ((rd_L4 y170 ((rd_T39 l0_1 x17_1).f0)).length : Int) then ((some (y170.set (((rd_T39 l0_1 x17_1).f0) : Int).toNat ((rd_L4 y170 ((rd_T39 l0_1 x17_1).f0)).set (((rd_T39 l0_1 x17_1).f1) : Int).toNat true) : List (List Bool))).bind fun y202 => (if ((rd_T39 l0_1 x17_1).f0) < ((rd_L4 y202 ((rd_T39 l0_1 x17_1).f1)).length : Int) then (spec_ShortestRound.l0 k1 x4_1 (y202.set (((rd_T39 l0_1 x17_1).f1) : Int).toNat ((rd_L4 y202 ((rd_T39 l0_1 x17_1).f1)).set (((rd_T39 l0_1 x17_1).f0) : Int).toNat true)) l0_1 (l0_1.length : Int) (wrap64 (x17_1 + 1))) else (none))) else (none))) else (none)) = some (r1, r2) := H
             have A22 := Aside0.mk A220
             clear A220
             by_cases c23 : ((rd_T39 l0_1 x17_1).f1) < (t171.length : Int)
             ·rw [if_pos c23] at H
              have c23b0 : decide (((rd_T39 l0_1 x17_1).f1) < (t171.length : Int)) = true := decide_eq_true c23
              clear c23
              by_cases c24 : (rd t171 ((rd_T39 l0_1 x17_1).f1)) > 0
              ·rw [if_pos c24] at H
               have c24b0 : decide (0 < (rd t171 ((rd_T39 l0_1 x17_1).f1))) = true := decide_eq_true c24
               clear c24
               by_cases c25 : x4_1 = 0
               ·rw [if_pos c25] at H
                have c25b0 : (x4_1 == 0) = true := beq_iff_eq.mpr c25
                have c25b1 : (x4_1 != 0) = false := bne_eq_false_iff_eq.mpr c25
                clear c25
                by_cases c26 : ((rd_T39 l0_1 x17_1).f1) < ((rd_L4 y170 ((rd_T39 l0_1 x17_1).f0)).length : Int)
                ·rw [if_pos c26] at H
                 have c26b0 : decide (((rd_T39 l0_1 x17_1).f1) < ((rd_L4 y170 ((rd_T39 l0_1 x17_1).f0)).length : Int)) = true := decide_eq_true c26
                 clear c26
                 obtain ⟨y176, hy176⟩ : ∃ y_ : List Bool, y_ = ((rd_L4 y170 ((rd_T39 l0_1 x17_1).f0)).set (((rd_T39 l0_1 x17_1).f1) : Int).toNat true) := ⟨_, rfl⟩
                 replace H : ((some (y170.set (((rd_T39 l0_1 x17_1).f0) : Int).toNat y176 : List (List Bool))).bind fun y178 => (if ((rd_T39 l0_1 x17_1).f0) < ((rd_L4 y178 ((rd_T39 l0_1 x17_1).f1)).length : Int) then (spec_ShortestRound.l0 k1 (wrap64 ((rd t171 ((rd_T39 l0_1 x17_1).f1)) + 1)) (y178.set (((rd_T39 l0_1 x17_1).f1) : Int).toNat ((rd_L4 y178 ((rd_T39 l0_1 x17_1).f1)).set (((rd_T39 l0_1 x17_1).f0) : Int).toNat true)) l0_1 (l0_1.length : Int) (wrap64 (x17_1 + 1))) else (none))) = some (r1, r2) := by first | (rw [hy176]; with_reducible exact H) | (have H2_ := (Option.bind_some _ _).symm.trans H; rw [hy176]; with_reducible exact H2_) | (have H2_ := (Option.bind_some _ _).symm.trans H; with_reducible exact H2_) | with_reducible exact H | (rw [hy176]; exact H) | exact H
                 have Ny176 := Aside0.mk hy176
                 clear hy176
                 obtain ⟨y178, hy178⟩ : ∃ y_ : List (List Bool), y_ = (y170.set (((rd_T39 l0_1 x17_1).f0) : Int).toNat y176) := ⟨_, rfl⟩
                 replace H : (if ((rd_T39 l0_1 x17_1).f0) < ((rd_L4 y178 ((rd_T39 l0_1 x17_1).f1)).length : Int) then (spec_ShortestRound.l0 k1 (wrap64 ((rd t171 ((rd_T39 l0_1 x17_1).f1)) + 1)) (y178.set (((rd_T39 l0_1 x17_1).f1) : Int).toNat ((rd_L4 y178 ((rd_T39 l0_1 x17_1).f1)).set (((rd_T39 l0_1 x17_1).f0) : Int).toNat true)) l0_1 (l0_1.length : Int) (wrap64 (x17_1 + 1))) else (none)) = some (r1, r2) := by first | (rw [hy178]; with_reducible exact H) | (have H2_ := (Option.bind_some _ _).symm.trans H; rw [hy178]; with_reducible exact H2_) | (have H2_ := (Option.bind_some _ _).symm.trans H; with_reducible exact H2_) | with_reducible exact H | (rw [hy178]; exact H) | exact H
                 have Ny178 := Aside0.mk hy178
                 clear hy178
                 by_cases c28 : ((rd_T39 l0_1 x17_1).f0) < ((rd_L4 y178 ((rd_T39 l0_1 x17_1).f1)).length : Int)
                 ·rw [if_pos c28] at H
                  have c28b0 : decide (((rd_T39 l0_1 x17_1).f0) < ((rd_L4 y178 ((rd_T39 l0_1 x17_1).f1)).length : Int)) = true := decide_eq_true c28
                  clear c28
                  obtain ⟨y180, hy180⟩ : ∃ y_ : List Bool, y_ = ((rd_L4 y178 ((rd_T39 l0_1 x17_1).f1)).set (((rd_T39 l0_1 x17_1).f0) : Int).toNat true) := ⟨_, rfl⟩
                  replace H : (spec_ShortestRound.l0 k1 (wrap64 ((rd t171 ((rd_T39 l0_1 x17_1).f1)) + 1)) (y178.set (((rd_T39 l0_1 x17_1).f1) : Int).toNat y180) l0_1 (l0_1.length : Int) (wrap64 (x17_1 + 1))) = some (r1, r2) := by first | (rw [hy180]; with_reducible exact H) | (have H2_ := (Option.bind_some _ _).symm.trans H; rw [hy180]; with_reducible exact H2_) | (have H2_ := (Option.bind_some _ _).symm.trans H; with_reducible exact H2_) | with_reducible exact H | (rw [hy180]; exact H) | exact H
                  have Ny180 := Aside0.mk hy180
                  clear hy180
                  obtain ⟨y182, hy182⟩ : ∃ y_ : List (List Bool), y_ = (y178.set (((rd_T39 l0_1 x17_1).f1) : Int).toNat y180) := ⟨_, rfl⟩
                  replace H : (spec_ShortestRound.l0 k1 (wrap64 ((rd t171 ((rd_T39 l0_1 x17_1).f1)) + 1)) y182 l0_1 (l0_1.length : Int) (wrap64 (x17_1 + 1))) = some (r1, r2) := by first | (rw [hy182]; with_reducible exact H) | (have H2_ := (Option.bind_some _ _).symm.trans H; rw [hy182]; with_reducible exact H2_) | (have H2_ := (Option.bind_some _ _).symm.trans H; with_reducible exact H2_) | with_reducible exact H | (rw [hy182]; exact H) | exact H
                  have Ny182 := Aside0.mk hy182
                  clear hy182
                  have H' := Aside0.mk H
                  clear H
                  have p161 : 0 ≤ (x17_1 : Int) := oD_
                  have q161 : x17_1 < (l0_1.length : Int) := oD_
                  obtain ⟨ad161, e161, hx161_0, hx161_1⟩ := at_T39 HR0_1.out x17_1 p161 q161
                  cases e161
                  (try (replace hx161_0 := (HB.out.cell (World.block_lt_of_cell? w _ hx161_0)).trans hx161_0))
                  (try (replace hx161_1 := (HB.out.cell (World.block_lt_of_cell? w _ hx161_1)).trans hx161_1))
                  replace p161 := eq_true p161
                  replace q161 := eq_true q161
                  try go_wp2_with (first | ((with_reducible refine gate_dst (N := 7) rfl ?_); refine box_event ?hg (N := 7) ?hd (cs := #[.int .i64 0, .int .i64 0]) (t := 39) ?hr ?_; (case hd => rfl); (case hg => rfl); (case hr => first | (go_simp; done) | (go_simp; rfl)); intro gb162 hg w30 hbox hb; have n0_ := Aside0.mk (Kd.S_below (uS_ HO_5.out) hb); have n1_ := Aside0.mk (qaq (g := gb156) (o := .cells #[.int .i64 a0_0, .slice (some ad161) l0_1.length c0_1] 30 (0, 0)) (uB_ BK156.out) hb); have n2_ := Aside0.mk (qao (hB1_ GE156.out) hb); have n3_ := Aside0.mk (hbox); have n4_ := Aside0.mk ((by rw [hg]; exact (qap (hB1_ GE156.out)) : w.heap.size ≤ gb162)); have n5_ := n4_; have n6_ := Aside0.mk ((by rw [hg]; exact Nat.ne_of_lt (blk_lt (g := gb156) (o := .cells #[.int .i64 a0_0, .slice (some ad161) l0_1.length c0_1] 30 (0, 0)) (uB_ BK156.out)) : gb156 ≠ gb162)); have n7_ := Aside0.mk n6_.out.symm; clear HO_5; clear BK156; clear HB; have HO_5 := n0_; have BK156 := n1_; have HB := n2_; have BK162 := n3_; have GW162 := n4_; have GE162 := n5_; have NB156_162 := n6_; have NB162_156 := n7_; clear n0_ n1_ n2_ n3_ n4_ n5_ n6_ n7_; clear hb hbox hg; have hnb31 := NB162_156.out; have hnc31 := NB156_162.out; have hcz32_0 : w30.cell? ⟨gb162, 0, none⟩ = some (.int .i64 0) := (qaa BK162.out 0).trans rfl; have hcz32_1 : w30.cell? ⟨gb162, 1, none⟩ = some (.int .i64 0) := (qaa BK162.out 1).trans rfl; have hfz32_0 := qam BK162.out 0; have hfz32_1 := qam BK162.out 1))
                  have n0_ : Aside0 (Kd.S (Kd.slice 4 Kd.bool) 40 ((w30.setCell ⟨gb162, 0, none⟩ (.int .i64 ((rd_T39 l0_1 x17_1).f0))).setCell ⟨gb162, 1, none⟩ (.int .i64 ((rd_T39 l0_1 x17_1).f1))) w.heap.size (fun _ => True) v159 x5_1) := ⟨by (with_reducible repeat (first | apply Kd.S_alloc | apply Kd.S_drewN | apply Kd.S_drew)); exact Kd.S_mono (Kd.S_far (p := ⟨gb162, 1, none⟩) (Kd.S_far (p := ⟨gb162, 0, none⟩) (Kd.S_types HO_5.out BK162.out (by decide)) (fun _ hk => hk.2) (.int .i64 ((rd_T39 l0_1 x17_1).f0))) (fun _ hk => hk.2) (.int .i64 ((rd_T39 l0_1 x17_1).f1))) (fun _ hk => trivial)⟩
                  have n1_ : Aside0 (((w30.setCell ⟨gb162, 0, none⟩ (.int .i64 ((rd_T39 l0_1 x17_1).f0))).setCell ⟨gb162, 1, none⟩ (.int .i64 ((rd_T39 l0_1 x17_1).f1))).heap[gb156]? = some (.cells #[.int .i64 a0_0, .slice (some ad161) l0_1.length c0_1] 30 (0, 0))) := ⟨by (with_reducible repeat (first | refine qad ?_ _ | refine qab ?_ | refine qae ?_ _)); refine blk_far ?_ NB156_162.out _; (with_reducible repeat (first | refine qad ?_ _ | refine qab ?_ | refine qae ?_ _)); refine blk_far ?_ NB156_162.out _; (with_reducible repeat (first | refine qad ?_ _ | refine qab ?_ | refine qae ?_ _)); exact BK156.out⟩
                  have n2_ : Aside0 (((w30.setCell ⟨gb162, 0, none⟩ (.int .i64 ((rd_T39 l0_1 x17_1).f0))).setCell ⟨gb162, 1, none⟩ (.int .i64 ((rd_T39 l0_1 x17_1).f1))).heap[gb162]? = some (.cells #[.int .i64 ((rd_T39 l0_1 x17_1).f0), .int .i64 ((rd_T39 l0_1 x17_1).f1)] 39 (0, 0))) := ⟨by (with_reducible repeat (first | refine qad ?_ _ | refine qab ?_ | refine qae ?_ _)); refine blk_put (cs := #[.int .i64 ((rd_T39 l0_1 x17_1).f0), .int .i64 0]) ?_ 1 _ rfl; (with_reducible repeat (first | refine qad ?_ _ | refine qab ?_ | refine qae ?_ _)); refine blk_put (cs := #[.int .i64 0, .int .i64 0]) ?_ 0 _ rfl; (with_reducible repeat (first | refine qad ?_ _ | refine qab ?_ | refine qae ?_ _)); exact BK162.out⟩
                  have n3_ : Aside0 (Below w.heap.size w ((w30.setCell ⟨gb162, 0, none⟩ (.int .i64 ((rd_T39 l0_1 x17_1).f0))).setCell ⟨gb162, 1, none⟩ (.int .i64 ((rd_T39 l0_1 x17_1).f1)))) := ⟨by repeat (first | (with_reducible first | exact HB.out | apply qal | apply qac | apply qaf | refine qag ?_ GE156.out | refine qag ?_ GE162.out) | exact HB.out)⟩
                  (try clear HO_5)
                  (try clear BK156)
                  (try clear BK162)
                  (try clear HB)
                  generalize ((w30.setCell ⟨gb162, 0, none⟩ (.int .i64 ((rd_T39 l0_1 x17_1).f0))).setCell ⟨gb162, 1, none⟩ (.int .i64 ((rd_T39 l0_1 x17_1).f1))) = w33 at n0_ n1_ n2_ n3_ ⊢
                  have HO_5 := n0_
                  have BK156 := n1_
                  have BK162 := n2_
                  have HB := n3_
                  clear n0_ n1_ n2_ n3_
                  have n0_ := Aside0.mk (Kd.S_drew HO_5.out)
                  have n1_ := Aside0.mk (qab BK156.out)
                  have n2_ := Aside0.mk (qab BK162.out)
                  have n3_ := Aside0.mk (qaf HB.out)
                  clear HO_5
                  clear BK156
                  clear BK162
                  clear HB
                  have HO_5 := n0_
                  have BK156 := n1_
                  have BK162 := n2_
                  have HB := n3_
                  clear n0_ n1_ n2_ n3_
                  obtain ⟨Ao35, co35, eo35⟩ := Kd.S_slice HO_5.out
                  (first | subst eo35 | (injection eo35 with f1_ f2_ f3_; have f4_ := f1_.symm; have f5_ := f3_.symm; clear f1_ f2_ f3_; subst f4_; subst f5_))
                  have p163 : 0 ≤ (((rd_T39 l0_1 x17_1).f0) : Int) := oD_
                  have q163 : ((rd_T39 l0_1 x17_1).f0) < (x5_1.length : Int) := oD_
                  obtain ⟨ad163, A163_0, c163_0, e163, hx163_0, hl163_0, hi163_0⟩ := at_L4 (Kd.S_reads' HO_5.out).2.2 ((rd_T39 l0_1 x17_1).f0) p163 q163
                  cases e163
                  obtain ⟨ce163, hce163, hMe163, hcc163⟩ := Kd.S_get HO_5.out [] ((rd_T39 l0_1 x17_1).f0) p163 (by first | exact q163 | exact oD_ | (have e_ := (Kd.S_reads' HO_5.out).1; omega))
                  obtain ⟨ve163_0, rfl, ge163_0⟩ := hMe163
                  have hv163_0 := hcc163 0 _ rfl
                  rw [Nat.add_zero, show ((Kd.slice 4 Kd.bool)).sz = 1 from rfl, Nat.mul_one] at hv163_0
                  replace hv163_0 := Option.some.inj (hv163_0.symm.trans hx163_0)
                  rw [hv163_0] at ge163_0
                  have HL163_0 := Aside0.mk (show Kd.R Kd.bool 4 _ _ _ _ (rd_L4 x5_1 ((rd_T39 l0_1 x17_1).f0)) from ge163_0)
                  clear hv163_0 ge163_0
                  have HX163_0 := Aside0.mk hx163_0
                  clear hcc163 hce163
                  have HR163_0 := Aside0.mk hi163_0
                  have HC163_0 := Aside0.mk hl163_0
                  clear hi163_0 hl163_0
                  replace p163 := eq_true p163
                  replace q163 := eq_true q163
                  have p18 : 0 ≤ (((rd_T39 l0_1 x17_1).f1) : Int) := oD_
                  have q18 : (((rd_T39 l0_1 x17_1).f1) : Int) < (((rd_L4 x5_1 ((rd_T39 l0_1 x17_1).f0)).length : Int) : Int) := oD_
                  obtain ⟨go18, co18, eo18, gb18, gl18, cl18, HG18⟩ := Kd.R_form HL163_0.out (by omega)
                  (first | cases eo18 | (injection eo18 with ea_ en_ ec_; (first | subst ea_ | (injection ea_ with ea_; subst ea_)); subst ec_; clear en_))
                  have GB18 := Aside0.mk gb18
                  have GG18 := Aside0.mk HG18
                  clear gb18 gl18 HG18
                  obtain ⟨hx18_0, hf18_0⟩ := Kd.R_celln false HL163_0.out (((rd_T39 l0_1 x17_1).f1) : Int) p18 q18
                  replace p18 := eq_true p18
                  replace q18 := eq_true q18
                  have hq36 : (((rd_T39 l0_1 x17_1).f0) : Int) < (x5_1.length : Int) := (by have h_ : (((rd_T39 l0_1 x17_1).f0) : Int) < ((x5_1.length : Int) : Int) := oD_; first | exact h_ | (have e_ := (Kd.S_reads' HO_5.out).1; omega) | simpa only [List.length_set, List.length_set] using h_)
                  obtain ⟨oki36, ce36, hcl36, hM36, hcc36, hok36, hbk36⟩ := Kd.S_borrow HO_5.out [] (((rd_T39 l0_1 x17_1).f0) : Int) (oD_) (by first | exact hq36 | exact oD_ | (have e_ := (Kd.S_reads' HO_5.out).1; omega))
                  obtain ⟨ve36_0, rfl, ge36_0⟩ := hM36
                  have hv36 := hcc36 0 _ rfl
                  rw [Nat.add_zero, show ((Kd.slice 4 Kd.bool)).sz = 1 from rfl, Nat.mul_one] at hv36
                  replace hv36 := Option.some.inj (hv36.symm.trans HX163_0.out)
                  subst hv36
                  clear hcc36 hcl36
                  replace ge36_0 := (show Kd.R Kd.bool 4 _ _ _ _ (rd_L4 x5_1 ((rd_T39 l0_1 x17_1).f0)) from ge36_0)
                  have HP36 := Kd.R_putg ge36_0 (((rd_T39 l0_1 x17_1).f1) : Int) false
                  rw [← Ny164.out] at HP36
                  have HS36 := hbk36 HP36.2 (fun k_ e_ => by injection e_ with e_; subst e_; exact ge36_0.1 _ rfl) (x' := y164) (Kd.M_row HP36.1)
                  rw [← Ny166.out] at HS36
                  have HQ36 := Aside0.mk HS36
                  clear HP36 HS36 hbk36 hok36
                  refine start_ (n := 9) (S := fun w' => w'.cell? ⟨gb162, 0, none⟩ = some (.int .i64 ((rd_T39 l0_1 x17_1).f0)) ∧ w'.cell? ⟨gb162, 1, none⟩ = some (.int .i64 ((rd_T39 l0_1 x17_1).f1)) ∧ w'.cell? (ad163.add (((rd_T39 l0_1 x17_1).f0)).toNat) = some (.slice (some ⟨go18, 0, none⟩) (rd_L4 x5_1 ((rd_T39 l0_1 x17_1).f0)).length c163_0)) (ds := [8]) #[fF,fF,fF,fF,fF,fF,fF,fF,fF] (by kernel_rfl) rfl rfl ⟨(qaa BK162.out 0).trans rfl, (qaa BK162.out 1).trans rfl, hx163_0⟩ (fun hHeld => ?_); refine with_tabW spec_ShortestRound.tab8 spec_ShortestRound.bits8 (fun HT_ HW_ => ?_)
                  generalize w33.drew = w34 at HO_5 BK156 BK162 HB GG18 HL163_0 HQ36 HR163_0 HX163_0 hf18_0 hx163_0 hx18_0 hHeld ⊢
                  refine qan (i := 0) (N := some 21) (v := ?_) (a' := ?_) #[tT,fF,fF,fF,fF,fF,fF,fF,fF] rfl rfl (aO_ HT_.out) (fun _ _ _ h => h) (.inl ⟨by rfl, ?_⟩) ?_ ?_
                  rotate_left
                  ·intro w'
                   go_simp
                   with_reducible rfl
                  rotate_left
                  ·simp only [Act.put, sP_, qai, qaj]
                   rfl
                  refine qan (i := 1) (N := some 22) (v := ?_) (a' := ?_) #[tT,tT,fF,fF,fF,fF,fF,fF,fF] rfl rfl (aO_ HT_.out) (fun _ _ _ h => h) (.inl ⟨by rfl, ?_⟩) ?_ ?_
                  rotate_left
                  ·intro w'
                   go_simp
                   with_reducible rfl
                  rotate_left
                  ·simp only [Act.put, sP_, qai, qaj]
                   rfl
                  refine qan (i := 5) (N := some 26) (v := ?_) (a' := ?_) #[tT,tT,fF,fF,fF,tT,fF,fF,fF] rfl rfl (aO_ HT_.out) (fun _ _ _ h => h) (.inl ⟨by rfl, ?_⟩) ?_ ?_
                  rotate_left
                  ·intro w'
                   go_simp
                   with_reducible rfl
                  rotate_left
                  ·simp only [Act.put, sP_, qai, qaj]
                   rfl
                  refine take_ (i := 2) (N := some 23) (v := ?_) (a' := ?_) #[tT,tT,tT,fF,fF,tT,fF,fF,fF] rfl rfl (qar HT_.out HW_.out (by kernel_rfl)) (fun _ _ _ h => h) (Or.inl ⟨by rfl, ?_⟩) hHeld ?_ ?_
                  rotate_left
                  ·rintro w' ⟨s0, s1, s2⟩
                   go_simp
                   with_reducible rfl
                  rotate_left
                  ·simp only [Act.put, sP_, qai, qaj]
                   rfl
                  refine qan (i := 3) (N := some 24) (v := ?_) (a' := ?_) #[tT,tT,tT,tT,fF,tT,fF,fF,fF] rfl rfl (aO_ HT_.out) (fun _ _ _ h => h) (.inl ⟨by rfl, ?_⟩) ?_ ?_
                  rotate_left
                  ·intro w'
                   go_simp
                   with_reducible rfl
                  rotate_left
                  ·simp only [Act.put, sP_, qai, qaj]
                   rfl
                  refine take_ (i := 4) (N := some 25) (v := ?_) (a' := ?_) #[tT,tT,tT,tT,tT,tT,fF,fF,fF] rfl rfl (qar HT_.out HW_.out (by kernel_rfl)) (fun _ _ _ h => h) (Or.inl ⟨by rfl, ?_⟩) hHeld ?_ ?_
                  rotate_left
                  ·rintro w' ⟨s0, s1, s2⟩
                   go_simp
                   with_reducible rfl
                  rotate_left
                  ·simp only [Act.put, sP_, qai, qaj]
                   rfl
                  refine take_ (i := 6) (N := some 27) (v := ?_) (a' := ?_) #[tT,tT,tT,tT,tT,tT,tT,fF,fF] rfl rfl (qar HT_.out HW_.out (by kernel_rfl)) (fun _ _ _ h => h) (Or.inl ⟨by rfl, ?_⟩) hHeld ?_ ?_
                  rotate_left
                  ·rintro w' ⟨s0, s1, s2⟩
                   go_simp
                   with_reducible rfl
                  rotate_left
                  ·simp only [Act.put, sP_, qai, qaj]
                   rfl
                  refine qan (i := 7) (N := some 28) (v := ?_) (a' := ?_) #[tT,tT,tT,tT,tT,tT,tT,tT,fF] rfl rfl (aO_ HT_.out) (fun _ _ _ h => h) (.inl ⟨by rfl, ?_⟩) ?_ ?_
                  rotate_left
                  ·intro w'
                   go_simp
                   with_reducible rfl
                  rotate_left
                  ·simp only [Act.put, sP_, qai, qaj]
                   rfl
                  refine last_ (i := 8) (N := none) #[tT,tT,tT,tT,tT,tT,tT,tT,tT] rfl rfl (one_of HT_.out (by kernel_rfl)) (by decide) (fun K hK => ?_)
                  refine skip_ (w1 := ?_) (by rfl) rfl ?_ ?_
                  rotate_left
                  ·go_simp
                   rfl
                  refine hK.out _ _ ?_
                  clear hK K
                  refine done_ (done_of HT_.out (by kernel_rfl)) ?_
                  try go_wp2
                  have n0_ : Aside0 (Kd.S (Kd.slice 4 Kd.bool) 40 (w34.setCell ⟨go18, (((rd_T39 l0_1 x17_1).f1) : Int).toNat, none⟩ (.bool false)) w.heap.size (fun _ => True) (.slice (some ad163) x5_1.length co35) y166) := ⟨by (with_reducible repeat (first | apply Kd.S_alloc | apply Kd.S_drewN | apply Kd.S_drew)); exact HQ36.out⟩
                  have n1_ : Aside0 ((w34.setCell ⟨go18, (((rd_T39 l0_1 x17_1).f1) : Int).toNat, none⟩ (.bool false)).heap[gb156]? = some (.cells #[.int .i64 a0_0, .slice (some ad161) l0_1.length c0_1] 30 (0, 0))) := ⟨by (with_reducible repeat (first | refine qad ?_ _ | refine qab ?_ | refine qae ?_ _)); refine blk_far ?_ (by have h_ := Kd.R_ne HL163_0.out BK156.out (by decide); intro e_; exact h_ (by rw [e_]; rfl)) _; (with_reducible repeat (first | refine qad ?_ _ | refine qab ?_ | refine qae ?_ _)); exact BK156.out⟩
                  have n2_ : Aside0 ((w34.setCell ⟨go18, (((rd_T39 l0_1 x17_1).f1) : Int).toNat, none⟩ (.bool false)).heap[gb162]? = some (.cells #[.int .i64 ((rd_T39 l0_1 x17_1).f0), .int .i64 ((rd_T39 l0_1 x17_1).f1)] 39 (0, 0))) := ⟨by (with_reducible repeat (first | refine qad ?_ _ | refine qab ?_ | refine qae ?_ _)); refine blk_far ?_ (by have h_ := Kd.R_ne HL163_0.out BK162.out (by decide); intro e_; exact h_ (by rw [e_]; rfl)) _; (with_reducible repeat (first | refine qad ?_ _ | refine qab ?_ | refine qae ?_ _)); exact BK162.out⟩
                  have n3_ : Aside0 (Below w.heap.size w (w34.setCell ⟨go18, (((rd_T39 l0_1 x17_1).f1) : Int).toNat, none⟩ (.bool false))) := ⟨by repeat (first | (with_reducible first | exact HB.out | apply qal | apply qac | apply qaf | refine qag ?_ GB18.out | refine qag ?_ GE156.out | refine qag ?_ GE162.out) | exact HB.out)⟩
                  (try clear HO_5)
                  (try clear BK156)
                  (try clear BK162)
                  (try clear HB)
                  generalize (w34.setCell ⟨go18, (((rd_T39 l0_1 x17_1).f1) : Int).toNat, none⟩ (.bool false)) = w38 at n0_ n1_ n2_ n3_ ⊢
                  have HO_5 := n0_
                  have BK156 := n1_
                  have BK162 := n2_
                  have HB := n3_
                  clear n0_ n1_ n2_ n3_
                  have n0_ := Aside0.mk (Kd.S_drew HO_5.out)
                  have n1_ := Aside0.mk (qab BK156.out)
                  have n2_ := Aside0.mk (qab BK162.out)
                  have n3_ := Aside0.mk (qaf HB.out)
                  clear HO_5
                  clear BK156
                  clear BK162
                  clear HB
                  have HO_5 := n0_
                  have BK156 := n1_
                  have BK162 := n2_
                  have HB := n3_
                  clear n0_ n1_ n2_ n3_
                  have p167 : 0 ≤ (((rd_T39 l0_1 x17_1).f1) : Int) := oD_
                  have q167 : ((rd_T39 l0_1 x17_1).f1) < (y166.length : Int) := (by have h_ : (((rd_T39 l0_1 x17_1).f1) : Int) < ((x5_1.length : Int) : Int) := oD_; first | (have e_ := (Kd.S_reads' HO_5.out).1; omega) | simpa only [Ny166.out, List.length_set] using h_)
                  have ql167 : ((((rd_T39 l0_1 x17_1).f1) : Int) < ((x5_1.length : Int) : Int)) = True := eq_true (oD_)
                  obtain ⟨ad167, A167_0, c167_0, e167, hx167_0, hl167_0, hi167_0⟩ := at_L4 (Kd.S_reads' HO_5.out).2.2 ((rd_T39 l0_1 x17_1).f1) p167 q167
                  obtain rfl : ad163 = ad167 := (by injection e167)
                  obtain ⟨ce167, hce167, hMe167, hcc167⟩ := Kd.S_get HO_5.out [] ((rd_T39 l0_1 x17_1).f1) p167 (by first | exact q167 | exact oD_ | (have e_ := (Kd.S_reads' HO_5.out).1; omega))
                  obtain ⟨ve167_0, rfl, ge167_0⟩ := hMe167
                  have hv167_0 := hcc167 0 _ rfl
                  rw [Nat.add_zero, show ((Kd.slice 4 Kd.bool)).sz = 1 from rfl, Nat.mul_one] at hv167_0
                  replace hv167_0 := Option.some.inj (hv167_0.symm.trans hx167_0)
                  rw [hv167_0] at ge167_0
                  have HL167_0 := Aside0.mk (show Kd.R Kd.bool 4 _ _ _ _ (rd_L4 y166 ((rd_T39 l0_1 x17_1).f1)) from ge167_0)
                  clear hv167_0 ge167_0
                  have HX167_0 := Aside0.mk hx167_0
                  clear hcc167 hce167
                  have HR167_0 := Aside0.mk hi167_0
                  have HC167_0 := Aside0.mk hl167_0
                  clear hi167_0 hl167_0
                  replace p167 := eq_true p167
                  replace q167 := eq_true q167
                  have p21 : 0 ≤ (((rd_T39 l0_1 x17_1).f0) : Int) := oD_
                  have q21 : (((rd_T39 l0_1 x17_1).f0) : Int) < (((rd_L4 y166 ((rd_T39 l0_1 x17_1).f1)).length : Int) : Int) := oD_
                  obtain ⟨go21, co21, eo21, gb21, gl21, cl21, HG21⟩ := Kd.R_form HL167_0.out (by omega)
                  (first | cases eo21 | (injection eo21 with ea_ en_ ec_; (first | subst ea_ | (injection ea_ with ea_; subst ea_)); subst ec_; clear en_))
                  have GB21 := Aside0.mk gb21
                  have GG21 := Aside0.mk HG21
                  clear gb21 gl21 HG21
                  obtain ⟨hx21_0, hf21_0⟩ := Kd.R_celln false HL167_0.out (((rd_T39 l0_1 x17_1).f0) : Int) p21 q21
                  replace p21 := eq_true p21
                  replace q21 := eq_true q21
                  have hq40 : (((rd_T39 l0_1 x17_1).f1) : Int) < (y166.length : Int) := (by have h_ : (((rd_T39 l0_1 x17_1).f1) : Int) < ((x5_1.length : Int) : Int) := oD_; first | exact h_ | (have e_ := (Kd.S_reads' HO_5.out).1; omega) | simpa only [Ny166.out, List.length_set] using h_)
                  obtain ⟨oki40, ce40, hcl40, hM40, hcc40, hok40, hbk40⟩ := Kd.S_borrow HO_5.out [] (((rd_T39 l0_1 x17_1).f1) : Int) (oD_) (by first | exact hq40 | exact oD_ | (have e_ := (Kd.S_reads' HO_5.out).1; omega))
                  obtain ⟨ve40_0, rfl, ge40_0⟩ := hM40
                  have hv40 := hcc40 0 _ rfl
                  rw [Nat.add_zero, show ((Kd.slice 4 Kd.bool)).sz = 1 from rfl, Nat.mul_one] at hv40
                  replace hv40 := Option.some.inj (hv40.symm.trans HX167_0.out)
                  subst hv40
                  clear hcc40 hcl40
                  replace ge40_0 := (show Kd.R Kd.bool 4 _ _ _ _ (rd_L4 y166 ((rd_T39 l0_1 x17_1).f1)) from ge40_0)
                  have HP40 := Kd.R_putg ge40_0 (((rd_T39 l0_1 x17_1).f0) : Int) false
                  rw [← Ny168.out] at HP40
                  have HS40 := hbk40 HP40.2 (fun k_ e_ => by injection e_ with e_; subst e_; exact ge40_0.1 _ rfl) (x' := y168) (Kd.M_row HP40.1)
                  rw [← Ny170.out] at HS40
                  have HQ40 := Aside0.mk HS40
                  clear HP40 HS40 hbk40 hok40
                  refine start_ (n := 9) (S := fun w' => w'.cell? ⟨gb162, 0, none⟩ = some (.int .i64 ((rd_T39 l0_1 x17_1).f0)) ∧ w'.cell? ⟨gb162, 1, none⟩ = some (.int .i64 ((rd_T39 l0_1 x17_1).f1)) ∧ w'.cell? (ad163.add (((rd_T39 l0_1 x17_1).f1)).toNat) = some (.slice (some ⟨go21, 0, none⟩) (rd_L4 y166 ((rd_T39 l0_1 x17_1).f1)).length c167_0)) (ds := [8]) #[fF,fF,fF,fF,fF,fF,fF,fF,fF] (by kernel_rfl) rfl rfl ⟨(qaa BK162.out 0).trans rfl, (qaa BK162.out 1).trans rfl, hx167_0⟩ (fun hHeld => ?_); refine with_tabW spec_ShortestRound.tab9 spec_ShortestRound.bits9 (fun HT_ HW_ => ?_)
                  generalize w38.drew = w39 at HO_5 BK156 BK162 HB GG21 HL167_0 HQ36 HQ40 HR167_0 HX167_0 hf21_0 hx167_0 hx21_0 hHeld ⊢
                  refine qan (i := 0) (N := some 29) (v := ?_) (a' := ?_) #[tT,fF,fF,fF,fF,fF,fF,fF,fF] rfl rfl (aO_ HT_.out) (fun _ _ _ h => h) (.inl ⟨by rfl, ?_⟩) ?_ ?_
                  rotate_left
                  ·intro w'
                   go_simp
                   with_reducible rfl
                  rotate_left
                  ·simp only [Act.put, sP_, qai, qaj]
                   rfl
                  refine qan (i := 1) (N := some 30) (v := ?_) (a' := ?_) #[tT,tT,fF,fF,fF,fF,fF,fF,fF] rfl rfl (aO_ HT_.out) (fun _ _ _ h => h) (.inl ⟨by rfl, ?_⟩) ?_ ?_
                  rotate_left
                  ·intro w'
                   go_simp
                   with_reducible rfl
                  rotate_left
                  ·simp only [Act.put, sP_, qai, qaj]
                   rfl
                  refine qan (i := 5) (N := some 34) (v := ?_) (a' := ?_) #[tT,tT,fF,fF,fF,tT,fF,fF,fF] rfl rfl (aO_ HT_.out) (fun _ _ _ h => h) (.inl ⟨by rfl, ?_⟩) ?_ ?_
                  rotate_left
                  ·intro w'
                   go_simp
                   with_reducible rfl
                  rotate_left
                  ·simp only [Act.put, sP_, qai, qaj]
                   rfl
                  refine take_ (i := 2) (N := some 31) (v := ?_) (a' := ?_) #[tT,tT,tT,fF,fF,tT,fF,fF,fF] rfl rfl (qar HT_.out HW_.out (by kernel_rfl)) (fun _ _ _ h => h) (Or.inl ⟨by rfl, ?_⟩) hHeld ?_ ?_
                  rotate_left
                  ·rintro w' ⟨s0, s1, s2⟩
                   go_simp
                   with_reducible rfl
                  rotate_left
                  ·simp only [Act.put, sP_, qai, qaj]
                   rfl
                  refine qan (i := 3) (N := some 32) (v := ?_) (a' := ?_) #[tT,tT,tT,tT,fF,tT,fF,fF,fF] rfl rfl (aO_ HT_.out) (fun _ _ _ h => h) (.inl ⟨by rfl, ?_⟩) ?_ ?_
                  rotate_left
                  ·intro w'
                   go_simp
                   with_reducible rfl
                  rotate_left
                  ·simp only [Act.put, sP_, qai, qaj]
                   rfl
                  refine take_ (i := 4) (N := some 33) (v := ?_) (a' := ?_) #[tT,tT,tT,tT,tT,tT,fF,fF,fF] rfl rfl (qar HT_.out HW_.out (by kernel_rfl)) (fun _ _ _ h => h) (Or.inl ⟨by rfl, ?_⟩) hHeld ?_ ?_
                  rotate_left
                  ·rintro w' ⟨s0, s1, s2⟩
                   go_simp
                   with_reducible rfl
                  rotate_left
                  ·simp only [Act.put, sP_, qai, qaj]
                   rfl
                  refine take_ (i := 6) (N := some 35) (v := ?_) (a' := ?_) #[tT,tT,tT,tT,tT,tT,tT,fF,fF] rfl rfl (qar HT_.out HW_.out (by kernel_rfl)) (fun _ _ _ h => h) (Or.inl ⟨by rfl, ?_⟩) hHeld ?_ ?_
                  rotate_left
                  ·rintro w' ⟨s0, s1, s2⟩
                   go_simp
                   with_reducible rfl
                  rotate_left
                  ·simp only [Act.put, sP_, qai, qaj]
                   rfl
                  refine qan (i := 7) (N := some 36) (v := ?_) (a' := ?_) #[tT,tT,tT,tT,tT,tT,tT,tT,fF] rfl rfl (aO_ HT_.out) (fun _ _ _ h => h) (.inl ⟨by rfl, ?_⟩) ?_ ?_
                  rotate_left
                  ·intro w'
                   go_simp
                   with_reducible rfl
                  rotate_left
                  ·simp only [Act.put, sP_, qai, qaj]
                   rfl
                  refine last_ (i := 8) (N := none) #[tT,tT,tT,tT,tT,tT,tT,tT,tT] rfl rfl (one_of HT_.out (by kernel_rfl)) (by decide) (fun K hK => ?_)
                  refine skip_ (w1 := ?_) (by rfl) rfl ?_ ?_
                  rotate_left
                  ·go_simp
                   rfl
                  refine hK.out _ _ ?_
                  clear hK K
                  refine done_ (done_of HT_.out (by kernel_rfl)) ?_
                  try go_wp2
                  have n0_ : Aside0 (Kd.S (Kd.slice 4 Kd.bool) 40 (w39.setCell ⟨go21, (((rd_T39 l0_1 x17_1).f0) : Int).toNat, none⟩ (.bool false)) w.heap.size (fun _ => True) (.slice (some ad163) x5_1.length co35) y170) := ⟨by (with_reducible repeat (first | apply Kd.S_alloc | apply Kd.S_drewN | apply Kd.S_drew)); exact HQ40.out⟩
                  have n1_ : Aside0 ((w39.setCell ⟨go21, (((rd_T39 l0_1 x17_1).f0) : Int).toNat, none⟩ (.bool false)).heap[gb156]? = some (.cells #[.int .i64 a0_0, .slice (some ad161) l0_1.length c0_1] 30 (0, 0))) := ⟨by (with_reducible repeat (first | refine qad ?_ _ | refine qab ?_ | refine qae ?_ _)); refine blk_far ?_ (by have h_ := Kd.R_ne HL167_0.out BK156.out (by decide); intro e_; exact h_ (by rw [e_]; rfl)) _; (with_reducible repeat (first | refine qad ?_ _ | refine qab ?_ | refine qae ?_ _)); exact BK156.out⟩
                  have n2_ : Aside0 ((w39.setCell ⟨go21, (((rd_T39 l0_1 x17_1).f0) : Int).toNat, none⟩ (.bool false)).heap[gb162]? = some (.cells #[.int .i64 ((rd_T39 l0_1 x17_1).f0), .int .i64 ((rd_T39 l0_1 x17_1).f1)] 39 (0, 0))) := ⟨by (with_reducible repeat (first | refine qad ?_ _ | refine qab ?_ | refine qae ?_ _)); refine blk_far ?_ (by have h_ := Kd.R_ne HL167_0.out BK162.out (by decide); intro e_; exact h_ (by rw [e_]; rfl)) _; (with_reducible repeat (first | refine qad ?_ _ | refine qab ?_ | refine qae ?_ _)); exact BK162.out⟩
                  have n3_ : Aside0 (Below w.heap.size w (w39.setCell ⟨go21, (((rd_T39 l0_1 x17_1).f0) : Int).toNat, none⟩ (.bool false))) := ⟨by repeat (first | (with_reducible first | exact HB.out | apply qal | apply qac | apply qaf | refine qag ?_ GB21.out | refine qag ?_ GE156.out | refine qag ?_ GE162.out) | exact HB.out)⟩
                  (try clear HO_5)
                  (try clear BK156)
                  (try clear BK162)
                  (try clear HB)
                  generalize (w39.setCell ⟨go21, (((rd_T39 l0_1 x17_1).f0) : Int).toNat, none⟩ (.bool false)) = w42 at n0_ n1_ n2_ n3_ ⊢
                  have HO_5 := n0_
                  have BK156 := n1_
                  have BK162 := n2_
                  have HB := n3_
                  clear n0_ n1_ n2_ n3_
                  have n0_ := Aside0.mk (Kd.S_drew HO_5.out)
                  have n1_ := Aside0.mk (qab BK156.out)
                  have n2_ := Aside0.mk (qab BK162.out)
                  have n3_ := Aside0.mk (qaf HB.out)
                  clear HO_5
                  clear BK156
                  clear BK162
                  clear HB
                  have HO_5 := n0_
                  have BK156 := n1_
                  have BK162 := n2_
                  have HB := n3_
                  clear n0_ n1_ n2_ n3_
                  refine start_ (n := 9) (S := fun w' => w'.cell? ⟨gb162, 0, none⟩ = some (.int .i64 ((rd_T39 l0_1 x17_1).f0)) ∧ w'.cell? ⟨gb162, 1, none⟩ = some (.int .i64 ((rd_T39 l0_1 x17_1).f1))) (ds := []) #[fF,fF,fF,fF,fF,fF,fF,fF,fF] (by kernel_rfl) rfl rfl ⟨(qaa BK162.out 0).trans rfl, (qaa BK162.out 1).trans rfl⟩ (fun hHeld => ?_); refine with_tabW spec_ShortestRound.tab10 spec_ShortestRound.bits10 (fun HT_ HW_ => ?_)
                  generalize w42.drew = w43 at HO_5 BK156 BK162 HB HQ40 hHeld ⊢
                  refine qan (i := 0) (N := some 37) (v := ?_) (a' := ?_) #[tT,fF,fF,fF,fF,fF,fF,fF,fF] rfl rfl (aO_ HT_.out) (fun _ _ _ h => h) (.inl ⟨by rfl, ?_⟩) ?_ ?_
                  rotate_left
                  ·intro w'
                   go_simp
                   with_reducible rfl
                  rotate_left
                  ·simp only [Act.put, sP_, qai, qaj]
                   rfl
                  refine qan (i := 1) (N := some 38) (v := ?_) (a' := ?_) #[tT,tT,fF,fF,fF,fF,fF,fF,fF] rfl rfl (aO_ HT_.out) (fun _ _ _ h => h) (.inl ⟨by rfl, ?_⟩) ?_ ?_
                  rotate_left
                  ·intro w'
                   go_simp
                   with_reducible rfl
                  rotate_left
                  ·simp only [Act.put, sP_, qai, qaj]
                   rfl
                  refine qan (i := 4) (N := some 41) (v := ?_) (a' := ?_) #[tT,tT,fF,fF,tT,fF,fF,fF,fF] rfl rfl (aO_ HT_.out) (fun _ _ _ h => h) (.inl ⟨by rfl, ?_⟩) ?_ ?_
                  rotate_left
                  ·intro w'
                   go_simp
                   with_reducible rfl
                  rotate_left
                  ·simp only [Act.put, sP_, qai, qaj]
                   rfl
                  refine take_ (i := 2) (N := some 39) (v := ?_) (a' := ?_) #[tT,tT,tT,fF,tT,fF,fF,fF,fF] rfl rfl (qar HT_.out HW_.out (by kernel_rfl)) (fun _ _ _ h => h) (Or.inl ⟨by rfl, ?_⟩) hHeld ?_ ?_
                  rotate_left
                  ·rintro w' ⟨s0, s1⟩
                   go_simp
                   with_reducible rfl
                  rotate_left
                  ·simp only [Act.put, sP_, qai, qaj]
                   rfl
                  refine take_ (i := 5) (N := some 42) (v := ?_) (a' := ?_) #[tT,tT,tT,fF,tT,tT,fF,fF,fF] rfl rfl (qar HT_.out HW_.out (by kernel_rfl)) (fun _ _ _ h => h) (Or.inl ⟨by rfl, ?_⟩) hHeld ?_ ?_
                  rotate_left
                  ·rintro w' ⟨s0, s1⟩
                   go_simp
                   with_reducible rfl
                  rotate_left
                  ·simp only [Act.put, sP_, qai, qaj]
                   rfl
                  refine one_ (i := 3) (N := some 40) #[tT,tT,tT,tT,tT,tT,fF,fF,fF] rfl rfl (one_of HT_.out (by kernel_rfl)) (by decide) (fun K hK => ?_)
                  refine goes_ Tryd.func12 (by kernel_rfl) rfl #[.slice (some ad163) y170.length co35, .int .i64 ((rd_T39 l0_1 x17_1).f0)] (by rfl) rfl rfl (by (try simp only [List.map_toArray, List.map_cons, List.map_nil]); first | done | (rw [show y170.length = x5_1.length from (Kd.S_reads' HO_5.out).1.symm] <;> rfl) | rfl | (simp only [List.length_drop, List.length_take]; rfl)) ?_
                  with_reducible refine (spec_cfDistances.calls k1 _ _ y170 ((rd_T39 l0_1 x17_1).f0) t171 _ ?side1 ?side2 A22.out).mono ?_
                  (case side1 => repeat (first | exact (Kd.S_reads' HO_5.out).2.2 | (with_reducible refine Kd.C_alloc ?_ _) | (with_reducible refine Kd.C_drewN ?_ _) | (with_reducible refine Kd.C_drew ?_)))
                  (case side2 => rw [show y170.length = x5_1.length from (Kd.S_reads' HO_5.out).1.symm]; exact (Kd.S_reads' HO_5.out).2.1)
                  rintro e w44 ⟨v172, rfl, ho0, hb⟩
                  refine ⟨_, rfl, ?_⟩
                  have n0_ := Aside0.mk (Kd.S_below (uS_ HO_5.out) hb)
                  have n1_ := Aside0.mk (Kd.R_lower ho0 (qap (hB2_ GE156.out GE162.out)))
                  have n2_ := Aside0.mk (qaq (g := gb156) (o := .cells #[.int .i64 a0_0, .slice (some ad161) l0_1.length c0_1] 30 (0, 0)) (uB_ BK156.out) hb)
                  have n3_ := Aside0.mk (qaq (g := gb162) (o := .cells #[.int .i64 ((rd_T39 l0_1 x17_1).f0), .int .i64 ((rd_T39 l0_1 x17_1).f1)] 39 (0, 0)) (uB_ BK162.out) hb)
                  have n4_ := Aside0.mk (qao (hB2_ GE156.out GE162.out) hb)
                  clear HO_5
                  clear BK156
                  clear BK162
                  clear HB
                  have HO_5 := n0_
                  have HO173 := n1_
                  have BK156 := n2_
                  have BK162 := n3_
                  have HB := n4_
                  clear n0_ n1_ n2_ n3_ n4_
                  (try clear hb)
                  (try clear hb2)
                  (try clear hk)
                  (try clear hi)
                  (try clear ho0)
                  obtain ⟨Ao45, co45, eo45⟩ := Kd.R_slice HO173.out
                  (first | subst eo45 | (injection eo45 with f1_ f2_ f3_; have f4_ := f1_.symm; have f5_ := f3_.symm; clear f1_ f2_ f3_; subst f4_; subst f5_))
                  have p174 : 0 ≤ (((rd_T39 l0_1 x17_1).f1) : Int) := oD_
                  have q174 : ((rd_T39 l0_1 x17_1).f1) < (t171.length : Int) := oD_
                  obtain ⟨ad174, e174, hx174_0⟩ := Kd.at_int (Kd.R_reads' HO173.out).2.2 ((rd_T39 l0_1 x17_1).f1) p174 q174
                  cases e174
                  replace p174 := eq_true p174
                  replace q174 := eq_true q174
                  refine hK.out _ _ ⟨(qaa BK162.out 0).trans rfl, (qaa BK162.out 1).trans rfl⟩ (fun hHeld => ?_)
                  clear hK K
                  refine norm_ (a' := ?_) ?_ ?_
                  rotate_left
                  ·show Act.put _ (some 40) _ = _
                   simp only [Act.put, sP_, qai, qaj]
                   rfl
                  refine qan (i := 6) (N := some 43) (v := ?_) (a' := ?_) #[tT,tT,tT,tT,tT,tT,tT,fF,fF] rfl rfl (aO_ HT_.out) (fun _ _ _ h => h) (.inl ⟨by rfl, ?_⟩) ?_ ?_
                  rotate_left
                  ·intro w'
                   go_simp
                   with_reducible rfl
                  rotate_left
                  ·simp only [Act.put, sP_, qai, qaj]
                   rfl
                  refine one_ (i := 7) (N := some 44) #[tT,tT,tT,tT,tT,tT,tT,tT,fF] rfl rfl (one_of HT_.out (by kernel_rfl)) (by decide) (fun K hK => ?_)
                  refine event_step (v := .int .i64 (rd t171 ((rd_T39 l0_1 x17_1).f1))) (by rfl) (by go_simp; with_reducible rfl) ?_
                  refine hK.out _ _ hHeld (fun hHeld => ?_)
                  clear hK K
                  refine norm_ (a' := ?_) ?_ ?_
                  rotate_left
                  ·show Act.put _ (some 44) _ = _
                   simp only [Act.put, sP_, qai, qaj]
                   rfl
                  refine qan (i := 8) (N := some 8) (v := ?_) (a' := ?_) #[tT,tT,tT,tT,tT,tT,tT,tT,tT] rfl rfl (aO_ HT_.out) (fun _ _ _ h => h) (.inl ⟨by rfl, ?_⟩) ?_ ?_
                  rotate_left
                  ·intro w'
                   go_simp
                   with_reducible rfl
                  rotate_left
                  ·simp only [Act.put, sP_, qai, qaj]
                   rfl
                  refine done_ (done_of HT_.out (by kernel_rfl)) ?_
                  try go_wp2
                  have n0_ := Aside0.mk (Kd.S_drew HO_5.out)
                  have n1_ := Aside0.mk (Kd.R_drew HO173.out)
                  have n2_ := Aside0.mk (qab BK156.out)
                  have n3_ := Aside0.mk (qab BK162.out)
                  have n4_ := Aside0.mk (qaf HB.out)
                  clear HO_5
                  clear HO173
                  clear BK156
                  clear BK162
                  clear HB
                  have HO_5 := n0_
                  have HO173 := n1_
                  have BK156 := n2_
                  have BK162 := n3_
                  have HB := n4_
                  clear n0_ n1_ n2_ n3_ n4_
                  have p175 : 0 ≤ (((rd_T39 l0_1 x17_1).f0) : Int) := oD_
                  have q175 : ((rd_T39 l0_1 x17_1).f0) < (y170.length : Int) := (by have h_ : (((rd_T39 l0_1 x17_1).f0) : Int) < ((x5_1.length : Int) : Int) := oD_; first | (have e_ := (Kd.S_reads' HO_5.out).1; omega) | simpa only [Ny166.out, Ny170.out, List.length_set] using h_)
                  have ql175 : ((((rd_T39 l0_1 x17_1).f0) : Int) < ((x5_1.length : Int) : Int)) = True := eq_true (oD_)
                  obtain ⟨ad175, A175_0, c175_0, e175, hx175_0, hl175_0, hi175_0⟩ := at_L4 (Kd.S_reads' HO_5.out).2.2 ((rd_T39 l0_1 x17_1).f0) p175 q175
                  obtain rfl : ad163 = ad175 := (by injection e175)
                  obtain ⟨ce175, hce175, hMe175, hcc175⟩ := Kd.S_get HO_5.out [] ((rd_T39 l0_1 x17_1).f0) p175 (by first | exact q175 | exact oD_ | (have e_ := (Kd.S_reads' HO_5.out).1; omega))
                  obtain ⟨ve175_0, rfl, ge175_0⟩ := hMe175
                  have hv175_0 := hcc175 0 _ rfl
                  rw [Nat.add_zero, show ((Kd.slice 4 Kd.bool)).sz = 1 from rfl, Nat.mul_one] at hv175_0
                  replace hv175_0 := Option.some.inj (hv175_0.symm.trans hx175_0)
                  rw [hv175_0] at ge175_0
                  have HL175_0 := Aside0.mk (show Kd.R Kd.bool 4 _ _ _ _ (rd_L4 y170 ((rd_T39 l0_1 x17_1).f0)) from ge175_0)
                  clear hv175_0 ge175_0
                  have HX175_0 := Aside0.mk hx175_0
                  clear hcc175 hce175
                  have HR175_0 := Aside0.mk hi175_0
                  have HC175_0 := Aside0.mk hl175_0
                  clear hi175_0 hl175_0
                  replace p175 := eq_true p175
                  replace q175 := eq_true q175
                  have p27 : 0 ≤ (((rd_T39 l0_1 x17_1).f1) : Int) := oD_
                  have q27 : (((rd_T39 l0_1 x17_1).f1) : Int) < (((rd_L4 y170 ((rd_T39 l0_1 x17_1).f0)).length : Int) : Int) := oD_
                  obtain ⟨go27, co27, eo27, gb27, gl27, cl27, HG27⟩ := Kd.R_form HL175_0.out (by omega)
                  (first | cases eo27 | (injection eo27 with ea_ en_ ec_; (first | subst ea_ | (injection ea_ with ea_; subst ea_)); subst ec_; clear en_))
                  have GB27 := Aside0.mk gb27
                  have GG27 := Aside0.mk HG27
                  clear gb27 gl27 HG27
                  obtain ⟨hx27_0, hf27_0⟩ := Kd.R_celln false HL175_0.out (((rd_T39 l0_1 x17_1).f1) : Int) p27 q27
                  replace p27 := eq_true p27
                  replace q27 := eq_true q27
                  have hq47 : (((rd_T39 l0_1 x17_1).f0) : Int) < (y170.length : Int) := (by have h_ : (((rd_T39 l0_1 x17_1).f0) : Int) < ((x5_1.length : Int) : Int) := oD_; first | exact h_ | (have e_ := (Kd.S_reads' HO_5.out).1; omega) | simpa only [Ny166.out, Ny170.out, List.length_set] using h_)
                  obtain ⟨oki47, ce47, hcl47, hM47, hcc47, hok47, hbk47⟩ := Kd.S_borrow HO_5.out [] (((rd_T39 l0_1 x17_1).f0) : Int) (oD_) (by first | exact hq47 | exact oD_ | (have e_ := (Kd.S_reads' HO_5.out).1; omega))
                  obtain ⟨ve47_0, rfl, ge47_0⟩ := hM47
                  have hv47 := hcc47 0 _ rfl
                  rw [Nat.add_zero, show ((Kd.slice 4 Kd.bool)).sz = 1 from rfl, Nat.mul_one] at hv47
                  replace hv47 := Option.some.inj (hv47.symm.trans HX175_0.out)
                  subst hv47
                  clear hcc47 hcl47
                  replace ge47_0 := (show Kd.R Kd.bool 4 _ _ _ _ (rd_L4 y170 ((rd_T39 l0_1 x17_1).f0)) from ge47_0)
                  have HP47 := Kd.R_putg ge47_0 (((rd_T39 l0_1 x17_1).f1) : Int) true
                  rw [← Ny176.out] at HP47
                  have HS47 := hbk47 HP47.2 (fun k_ e_ => by injection e_ with e_; subst e_; exact ge47_0.1 _ rfl) (x' := y176) (Kd.M_row HP47.1)
                  rw [← Ny178.out] at HS47
                  have HQ47 := Aside0.mk HS47
                  clear HP47 HS47 hbk47 hok47
                  refine start_ (n := 9) (S := fun w' => w'.cell? ⟨gb162, 0, none⟩ = some (.int .i64 ((rd_T39 l0_1 x17_1).f0)) ∧ w'.cell? ⟨gb162, 1, none⟩ = some (.int .i64 ((rd_T39 l0_1 x17_1).f1)) ∧ w'.cell? (ad163.add (((rd_T39 l0_1 x17_1).f0)).toNat) = some (.slice (some ⟨go27, 0, none⟩) (rd_L4 y170 ((rd_T39 l0_1 x17_1).f0)).length c175_0)) (ds := [8]) #[fF,fF,fF,fF,fF,fF,fF,fF,fF] (by kernel_rfl) rfl rfl ⟨(qaa BK162.out 0).trans rfl, (qaa BK162.out 1).trans rfl, hx175_0⟩ (fun hHeld => ?_); refine with_tabW spec_ShortestRound.tab13 spec_ShortestRound.bits13 (fun HT_ HW_ => ?_)
                  generalize w44.drew = w46 at HO_5 HO173 BK156 BK162 HB GG27 HL175_0 HQ47 HR175_0 HX175_0 hf27_0 hx175_0 hx27_0 hHeld ⊢
                  refine qan (i := 0) (N := some 59) (v := ?_) (a' := ?_) #[tT,fF,fF,fF,fF,fF,fF,fF,fF] rfl rfl (aO_ HT_.out) (fun _ _ _ h => h) (.inl ⟨by rfl, ?_⟩) ?_ ?_
                  rotate_left
                  ·intro w'
                   go_simp
                   with_reducible rfl
                  rotate_left
                  ·simp only [Act.put, sP_, qai, qaj]
                   rfl
                  refine qan (i := 1) (N := some 60) (v := ?_) (a' := ?_) #[tT,tT,fF,fF,fF,fF,fF,fF,fF] rfl rfl (aO_ HT_.out) (fun _ _ _ h => h) (.inl ⟨by rfl, ?_⟩) ?_ ?_
                  rotate_left
                  ·intro w'
                   go_simp
                   with_reducible rfl
                  rotate_left
                  ·simp only [Act.put, sP_, qai, qaj]
                   rfl
                  refine qan (i := 5) (N := some 64) (v := ?_) (a' := ?_) #[tT,tT,fF,fF,fF,tT,fF,fF,fF] rfl rfl (aO_ HT_.out) (fun _ _ _ h => h) (.inl ⟨by rfl, ?_⟩) ?_ ?_
                  rotate_left
                  ·intro w'
                   go_simp
                   with_reducible rfl
                  rotate_left
                  ·simp only [Act.put, sP_, qai, qaj]
                   rfl
                  refine take_ (i := 2) (N := some 61) (v := ?_) (a' := ?_) #[tT,tT,tT,fF,fF,tT,fF,fF,fF] rfl rfl (qar HT_.out HW_.out (by kernel_rfl)) (fun _ _ _ h => h) (Or.inl ⟨by rfl, ?_⟩) hHeld ?_ ?_
                  rotate_left
                  ·rintro w' ⟨s0, s1, s2⟩
                   go_simp
                   with_reducible rfl
                  rotate_left
                  ·simp only [Act.put, sP_, qai, qaj]
                   rfl
                  refine qan (i := 3) (N := some 62) (v := ?_) (a' := ?_) #[tT,tT,tT,tT,fF,tT,fF,fF,fF] rfl rfl (aO_ HT_.out) (fun _ _ _ h => h) (.inl ⟨by rfl, ?_⟩) ?_ ?_
                  rotate_left
                  ·intro w'
                   go_simp
                   with_reducible rfl
                  rotate_left
                  ·simp only [Act.put, sP_, qai, qaj]
                   rfl
                  refine take_ (i := 4) (N := some 63) (v := ?_) (a' := ?_) #[tT,tT,tT,tT,tT,tT,fF,fF,fF] rfl rfl (qar HT_.out HW_.out (by kernel_rfl)) (fun _ _ _ h => h) (Or.inl ⟨by rfl, ?_⟩) hHeld ?_ ?_
                  rotate_left
                  ·rintro w' ⟨s0, s1, s2⟩
                   go_simp
                   with_reducible rfl
                  rotate_left
                  ·simp only [Act.put, sP_, qai, qaj]
                   rfl
                  refine take_ (i := 6) (N := some 65) (v := ?_) (a' := ?_) #[tT,tT,tT,tT,tT,tT,tT,fF,fF] rfl rfl (qar HT_.out HW_.out (by kernel_rfl)) (fun _ _ _ h => h) (Or.inl ⟨by rfl, ?_⟩) hHeld ?_ ?_
                  rotate_left
                  ·rintro w' ⟨s0, s1, s2⟩
                   go_simp
                   with_reducible rfl
                  rotate_left
                  ·simp only [Act.put, sP_, qai, qaj]
                   rfl
                  refine qan (i := 7) (N := some 66) (v := ?_) (a' := ?_) #[tT,tT,tT,tT,tT,tT,tT,tT,fF] rfl rfl (aO_ HT_.out) (fun _ _ _ h => h) (.inl ⟨by rfl, ?_⟩) ?_ ?_
                  rotate_left
                  ·intro w'
                   go_simp
                   with_reducible rfl
                  rotate_left
                  ·simp only [Act.put, sP_, qai, qaj]
                   rfl
                  refine last_ (i := 8) (N := none) #[tT,tT,tT,tT,tT,tT,tT,tT,tT] rfl rfl (one_of HT_.out (by kernel_rfl)) (by decide) (fun K hK => ?_)
                  refine skip_ (w1 := ?_) (by rfl) rfl ?_ ?_
                  rotate_left
                  ·go_simp
                   rfl
                  refine hK.out _ _ ?_
                  clear hK K
                  refine done_ (done_of HT_.out (by kernel_rfl)) ?_
                  try go_wp2
                  have n0_ : Aside0 (Kd.S (Kd.slice 4 Kd.bool) 40 (w46.setCell ⟨go27, (((rd_T39 l0_1 x17_1).f1) : Int).toNat, none⟩ (.bool true)) w.heap.size (fun _ => True) (.slice (some ad163) x5_1.length co35) y178) := ⟨by (with_reducible repeat (first | apply Kd.S_alloc | apply Kd.S_drewN | apply Kd.S_drew)); exact HQ47.out⟩
                  have n1_ : Aside0 (Kd.R (Kd.int .i64) 3 (w46.setCell ⟨go27, (((rd_T39 l0_1 x17_1).f1) : Int).toNat, none⟩ (.bool true)) w.heap.size (fun _ => True) (.slice (some ad174) t171.length co45) t171) := ⟨by (with_reducible repeat (first | apply Kd.R_alloc | apply Kd.R_drewN | apply Kd.R_drew)); exact Kd.R_mono (Kd.R_far (p := ⟨go27, (((rd_T39 l0_1 x17_1).f1) : Int).toNat, none⟩) (Kd.R_types HO173.out GG27.out (by decide)) (fun _ hk => hk.2) (.bool true)) (fun _ hk => trivial)⟩
                  have n2_ : Aside0 ((w46.setCell ⟨go27, (((rd_T39 l0_1 x17_1).f1) : Int).toNat, none⟩ (.bool true)).heap[gb156]? = some (.cells #[.int .i64 a0_0, .slice (some ad161) l0_1.length c0_1] 30 (0, 0))) := ⟨by (with_reducible repeat (first | refine qad ?_ _ | refine qab ?_ | refine qae ?_ _)); refine blk_far ?_ (by have h_ := Kd.R_ne HL175_0.out BK156.out (by decide); intro e_; exact h_ (by rw [e_]; rfl)) _; (with_reducible repeat (first | refine qad ?_ _ | refine qab ?_ | refine qae ?_ _)); exact BK156.out⟩
                  have n3_ : Aside0 ((w46.setCell ⟨go27, (((rd_T39 l0_1 x17_1).f1) : Int).toNat, none⟩ (.bool true)).heap[gb162]? = some (.cells #[.int .i64 ((rd_T39 l0_1 x17_1).f0), .int .i64 ((rd_T39 l0_1 x17_1).f1)] 39 (0, 0))) := ⟨by (with_reducible repeat (first | refine qad ?_ _ | refine qab ?_ | refine qae ?_ _)); refine blk_far ?_ (by have h_ := Kd.R_ne HL175_0.out BK162.out (by decide); intro e_; exact h_ (by rw [e_]; rfl)) _; (with_reducible repeat (first | refine qad ?_ _ | refine qab ?_ | refine qae ?_ _)); exact BK162.out⟩
                  have n4_ : Aside0 (Below w.heap.size w (w46.setCell ⟨go27, (((rd_T39 l0_1 x17_1).f1) : Int).toNat, none⟩ (.bool true))) := ⟨by repeat (first | (with_reducible first | exact HB.out | apply qal | apply qac | apply qaf | refine qag ?_ GB27.out | refine qag ?_ GE156.out | refine qag ?_ GE162.out) | exact HB.out)⟩
                  (try clear HO_5)
                  (try clear HO173)
                  (try clear BK156)
                  (try clear BK162)
                  (try clear HB)
                  generalize (w46.setCell ⟨go27, (((rd_T39 l0_1 x17_1).f1) : Int).toNat, none⟩ (.bool true)) = w49 at n0_ n1_ n2_ n3_ n4_ ⊢
                  have HO_5 := n0_
                  have HO173 := n1_
                  have BK156 := n2_
                  have BK162 := n3_
                  have HB := n4_
                  clear n0_ n1_ n2_ n3_ n4_
                  have n0_ := Aside0.mk (Kd.S_drew HO_5.out)
                  have n1_ := Aside0.mk (Kd.R_drew HO173.out)
                  have n2_ := Aside0.mk (qab BK156.out)
                  have n3_ := Aside0.mk (qab BK162.out)
                  have n4_ := Aside0.mk (qaf HB.out)
                  clear HO_5
                  clear HO173
                  clear BK156
                  clear BK162
                  clear HB
                  have HO_5 := n0_
                  have HO173 := n1_
                  have BK156 := n2_
                  have BK162 := n3_
                  have HB := n4_
                  clear n0_ n1_ n2_ n3_ n4_
                  have p179 : 0 ≤ (((rd_T39 l0_1 x17_1).f1) : Int) := oD_
                  have q179 : ((rd_T39 l0_1 x17_1).f1) < (y178.length : Int) := (by have h_ : (((rd_T39 l0_1 x17_1).f1) : Int) < ((x5_1.length : Int) : Int) := oD_; first | (have e_ := (Kd.S_reads' HO_5.out).1; omega) | simpa only [Ny166.out, Ny170.out, Ny178.out, List.length_set] using h_)
                  have ql179 : ((((rd_T39 l0_1 x17_1).f1) : Int) < ((x5_1.length : Int) : Int)) = True := eq_true (oD_)
                  obtain ⟨ad179, A179_0, c179_0, e179, hx179_0, hl179_0, hi179_0⟩ := at_L4 (Kd.S_reads' HO_5.out).2.2 ((rd_T39 l0_1 x17_1).f1) p179 q179
                  obtain rfl : ad163 = ad179 := (by injection e179)
                  obtain ⟨ce179, hce179, hMe179, hcc179⟩ := Kd.S_get HO_5.out [] ((rd_T39 l0_1 x17_1).f1) p179 (by first | exact q179 | exact oD_ | (have e_ := (Kd.S_reads' HO_5.out).1; omega))
                  obtain ⟨ve179_0, rfl, ge179_0⟩ := hMe179
                  have hv179_0 := hcc179 0 _ rfl
                  rw [Nat.add_zero, show ((Kd.slice 4 Kd.bool)).sz = 1 from rfl, Nat.mul_one] at hv179_0
                  replace hv179_0 := Option.some.inj (hv179_0.symm.trans hx179_0)
                  rw [hv179_0] at ge179_0
                  have HL179_0 := Aside0.mk (show Kd.R Kd.bool 4 _ _ _ _ (rd_L4 y178 ((rd_T39 l0_1 x17_1).f1)) from ge179_0)
                  clear hv179_0 ge179_0
                  have HX179_0 := Aside0.mk hx179_0
                  clear hcc179 hce179
                  have HR179_0 := Aside0.mk hi179_0
                  have HC179_0 := Aside0.mk hl179_0
                  clear hi179_0 hl179_0
                  replace p179 := eq_true p179
                  replace q179 := eq_true q179
                  have p29 : 0 ≤ (((rd_T39 l0_1 x17_1).f0) : Int) := oD_
                  have q29 : (((rd_T39 l0_1 x17_1).f0) : Int) < (((rd_L4 y178 ((rd_T39 l0_1 x17_1).f1)).length : Int) : Int) := oD_
                  obtain ⟨go29, co29, eo29, gb29, gl29, cl29, HG29⟩ := Kd.R_form HL179_0.out (by omega)
                  (first | cases eo29 | (injection eo29 with ea_ en_ ec_; (first | subst ea_ | (injection ea_ with ea_; subst ea_)); subst ec_; clear en_))
                  have GB29 := Aside0.mk gb29
                  have GG29 := Aside0.mk HG29
                  clear gb29 gl29 HG29
                  obtain ⟨hx29_0, hf29_0⟩ := Kd.R_celln false HL179_0.out (((rd_T39 l0_1 x17_1).f0) : Int) p29 q29
                  replace p29 := eq_true p29
                  replace q29 := eq_true q29
                  have hq51 : (((rd_T39 l0_1 x17_1).f1) : Int) < (y178.length : Int) := (by have h_ : (((rd_T39 l0_1 x17_1).f1) : Int) < ((x5_1.length : Int) : Int) := oD_; first | exact h_ | (have e_ := (Kd.S_reads' HO_5.out).1; omega) | simpa only [Ny166.out, Ny170.out, Ny178.out, List.length_set] using h_)
                  obtain ⟨oki51, ce51, hcl51, hM51, hcc51, hok51, hbk51⟩ := Kd.S_borrow HO_5.out [] (((rd_T39 l0_1 x17_1).f1) : Int) (oD_) (by first | exact hq51 | exact oD_ | (have e_ := (Kd.S_reads' HO_5.out).1; omega))
                  obtain ⟨ve51_0, rfl, ge51_0⟩ := hM51
                  have hv51 := hcc51 0 _ rfl
                  rw [Nat.add_zero, show ((Kd.slice 4 Kd.bool)).sz = 1 from rfl, Nat.mul_one] at hv51
                  replace hv51 := Option.some.inj (hv51.symm.trans HX179_0.out)
                  subst hv51
                  clear hcc51 hcl51
                  replace ge51_0 := (show Kd.R Kd.bool 4 _ _ _ _ (rd_L4 y178 ((rd_T39 l0_1 x17_1).f1)) from ge51_0)
                  have HP51 := Kd.R_putg ge51_0 (((rd_T39 l0_1 x17_1).f0) : Int) true
                  rw [← Ny180.out] at HP51
                  have HS51 := hbk51 HP51.2 (fun k_ e_ => by injection e_ with e_; subst e_; exact ge51_0.1 _ rfl) (x' := y180) (Kd.M_row HP51.1)
                  rw [← Ny182.out] at HS51
                  have HQ51 := Aside0.mk HS51
                  clear HP51 HS51 hbk51 hok51
                  refine start_ (n := 9) (S := fun w' => w'.cell? ⟨gb162, 0, none⟩ = some (.int .i64 ((rd_T39 l0_1 x17_1).f0)) ∧ w'.cell? ⟨gb162, 1, none⟩ = some (.int .i64 ((rd_T39 l0_1 x17_1).f1)) ∧ w'.cell? (ad163.add (((rd_T39 l0_1 x17_1).f1)).toNat) = some (.slice (some ⟨go29, 0, none⟩) (rd_L4 y178 ((rd_T39 l0_1 x17_1).f1)).length c179_0)) (ds := [8]) #[fF,fF,fF,fF,fF,fF,fF,fF,fF] (by kernel_rfl) rfl rfl ⟨(qaa BK162.out 0).trans rfl, (qaa BK162.out 1).trans rfl, hx179_0⟩ (fun hHeld => ?_); refine with_tabW spec_ShortestRound.tab14 spec_ShortestRound.bits14 (fun HT_ HW_ => ?_)
                  generalize w49.drew = w50 at HO_5 HO173 BK156 BK162 HB GG29 HL179_0 HQ47 HQ51 HR179_0 HX179_0 hf29_0 hx179_0 hx29_0 hHeld ⊢
                  refine qan (i := 0) (N := some 67) (v := ?_) (a' := ?_) #[tT,fF,fF,fF,fF,fF,fF,fF,fF] rfl rfl (aO_ HT_.out) (fun _ _ _ h => h) (.inl ⟨by rfl, ?_⟩) ?_ ?_
                  rotate_left
                  ·intro w'
                   go_simp
                   with_reducible rfl
                  rotate_left
                  ·simp only [Act.put, sP_, qai, qaj]
                   rfl
                  refine qan (i := 1) (N := some 68) (v := ?_) (a' := ?_) #[tT,tT,fF,fF,fF,fF,fF,fF,fF] rfl rfl (aO_ HT_.out) (fun _ _ _ h => h) (.inl ⟨by rfl, ?_⟩) ?_ ?_
                  rotate_left
                  ·intro w'
                   go_simp
                   with_reducible rfl
                  rotate_left
                  ·simp only [Act.put, sP_, qai, qaj]
                   rfl
                  refine qan (i := 5) (N := some 72) (v := ?_) (a' := ?_) #[tT,tT,fF,fF,fF,tT,fF,fF,fF] rfl rfl (aO_ HT_.out) (fun _ _ _ h => h) (.inl ⟨by rfl, ?_⟩) ?_ ?_
                  rotate_left
                  ·intro w'
                   go_simp
                   with_reducible rfl
                  rotate_left
                  ·simp only [Act.put, sP_, qai, qaj]
                   rfl
                  refine take_ (i := 2) (N := some 69) (v := ?_) (a' := ?_) #[tT,tT,tT,fF,fF,tT,fF,fF,fF] rfl rfl (qar HT_.out HW_.out (by kernel_rfl)) (fun _ _ _ h => h) (Or.inl ⟨by rfl, ?_⟩) hHeld ?_ ?_
                  rotate_left
                  ·rintro w' ⟨s0, s1, s2⟩
                   go_simp
                   with_reducible rfl
                  rotate_left
                  ·simp only [Act.put, sP_, qai, qaj]
                   rfl
                  refine qan (i := 3) (N := some 70) (v := ?_) (a' := ?_) #[tT,tT,tT,tT,fF,tT,fF,fF,fF] rfl rfl (aO_ HT_.out) (fun _ _ _ h => h) (.inl ⟨by rfl, ?_⟩) ?_ ?_
                  rotate_left
                  ·intro w'
                   go_simp
                   with_reducible rfl
                  rotate_left
                  ·simp only [Act.put, sP_, qai, qaj]
                   rfl
                  refine take_ (i := 4) (N := some 71) (v := ?_) (a' := ?_) #[tT,tT,tT,tT,tT,tT,fF,fF,fF] rfl rfl (qar HT_.out HW_.out (by kernel_rfl)) (fun _ _ _ h => h) (Or.inl ⟨by rfl, ?_⟩) hHeld ?_ ?_
                  rotate_left
                  ·rintro w' ⟨s0, s1, s2⟩
                   go_simp
                   with_reducible rfl
                  rotate_left
                  ·simp only [Act.put, sP_, qai, qaj]
                   rfl
                  refine take_ (i := 6) (N := some 73) (v := ?_) (a' := ?_) #[tT,tT,tT,tT,tT,tT,tT,fF,fF] rfl rfl (qar HT_.out HW_.out (by kernel_rfl)) (fun _ _ _ h => h) (Or.inl ⟨by rfl, ?_⟩) hHeld ?_ ?_
                  rotate_left
                  ·rintro w' ⟨s0, s1, s2⟩
                   go_simp
                   with_reducible rfl
                  rotate_left
                  ·simp only [Act.put, sP_, qai, qaj]
                   rfl
                  refine qan (i := 7) (N := some 74) (v := ?_) (a' := ?_) #[tT,tT,tT,tT,tT,tT,tT,tT,fF] rfl rfl (aO_ HT_.out) (fun _ _ _ h => h) (.inl ⟨by rfl, ?_⟩) ?_ ?_
                  rotate_left
                  ·intro w'
                   go_simp
                   with_reducible rfl
                  rotate_left
                  ·simp only [Act.put, sP_, qai, qaj]
                   rfl
                  refine last_ (i := 8) (N := none) #[tT,tT,tT,tT,tT,tT,tT,tT,tT] rfl rfl (one_of HT_.out (by kernel_rfl)) (by decide) (fun K hK => ?_)
                  refine skip_ (w1 := ?_) (by rfl) rfl ?_ ?_
                  rotate_left
                  ·go_simp
                   rfl
                  refine hK.out _ _ ?_
                  clear hK K
                  refine done_ (done_of HT_.out (by kernel_rfl)) ?_
                  try go_wp2
                  go_roundg k1
                  case measure => have := HK1.out; omega
                  case rel => exact ⟨(wrap64 ((rd t171 ((rd_T39 l0_1 x17_1).f1)) + 1)), (y182), (wrap64 (x17_1 + 1)), rS_, rS_, H', ⟨by have := HK1.out; omega⟩, ⟨by (with_reducible repeat (first | apply Kd.S_alloc | apply Kd.S_drewN | apply Kd.S_drew)); exact HQ51.out⟩, ⟨by (with_reducible repeat (first | refine qad ?_ _ | refine qab ?_ | refine qae ?_ _)); refine blk_far ?_ (by have h_ := Kd.R_ne HL179_0.out BK156.out (by decide); intro e_; exact h_ (by rw [e_]; rfl)) _; (with_reducible repeat (first | refine qad ?_ _ | refine qab ?_ | refine qae ?_ _)); exact BK156.out⟩, ⟨by repeat (first | (with_reducible first | exact HB.out | apply qal | apply qac | apply qaf | refine qag ?_ GB29.out | refine qag ?_ GE156.out | refine qag ?_ GE162.out) | exact HB.out)⟩⟩
                 ·rw [if_neg c28] at H
                  exact absurd H (by simp)
                ·rw [if_neg c26] at H
                 exact absurd H (by simp)
               ·rw [if_neg c25] at H
                have c25b0 : (x4_1 == 0) = false := beq_eq_false_iff_ne.mpr c25
                have c25b1 : (x4_1 != 0) = true := bne_iff_ne.mpr c25
                by_cases c53 : (wrap64 ((rd t171 ((rd_T39 l0_1 x17_1).f1)) + 1)) < x4_1
                ·rw [if_pos c53] at H
                 have c53b0 : decide ((wrap64 ((rd t171 ((rd_T39 l0_1 x17_1).f1)) + 1)) < x4_1) = true := decide_eq_true c53
                 (try (have c53b0_w : decide ((IntKind.i64.wrap ((rd t171 ((rd_T39 l0_1 x17_1).f1)) + 1)) < x4_1) = true := (by simp only [qai]; exact c53b0)))
                 clear c53
                 by_cases c54 : ((rd_T39 l0_1 x17_1).f1) < ((rd_L4 y170 ((rd_T39 l0_1 x17_1).f0)).length : Int)
                 ·rw [if_pos c54] at H
                  have c54b0 : decide (((rd_T39 l0_1 x17_1).f1) < ((rd_L4 y170 ((rd_T39 l0_1 x17_1).f0)).length : Int)) = true := decide_eq_true c54
                  clear c54
                  obtain ⟨y184, hy184⟩ : ∃ y_ : List Bool, y_ = ((rd_L4 y170 ((rd_T39 l0_1 x17_1).f0)).set (((rd_T39 l0_1 x17_1).f1) : Int).toNat true) := ⟨_, rfl⟩
                  replace H : ((some (y170.set (((rd_T39 l0_1 x17_1).f0) : Int).toNat y184 : List (List Bool))).bind fun y186 => (if ((rd_T39 l0_1 x17_1).f0) < ((rd_L4 y186 ((rd_T39 l0_1 x17_1).f1)).length : Int) then (spec_ShortestRound.l0 k1 (wrap64 ((rd t171 ((rd_T39 l0_1 x17_1).f1)) + 1)) (y186.set (((rd_T39 l0_1 x17_1).f1) : Int).toNat ((rd_L4 y186 ((rd_T39 l0_1 x17_1).f1)).set (((rd_T39 l0_1 x17_1).f0) : Int).toNat true)) l0_1 (l0_1.length : Int) (wrap64 (x17_1 + 1))) else (none))) = some (r1, r2) := by first | (rw [hy184]; with_reducible exact H) | (have H2_ := (Option.bind_some _ _).symm.trans H; rw [hy184]; with_reducible exact H2_) | (have H2_ := (Option.bind_some _ _).symm.trans H; with_reducible exact H2_) | with_reducible exact H | (rw [hy184]; exact H) | exact H
                  have Ny184 := Aside0.mk hy184
                  clear hy184
                  obtain ⟨y186, hy186⟩ : ∃ y_ : List (List Bool), y_ = (y170.set (((rd_T39 l0_1 x17_1).f0) : Int).toNat y184) := ⟨_, rfl⟩
                  replace H : (if ((rd_T39 l0_1 x17_1).f0) < ((rd_L4 y186 ((rd_T39 l0_1 x17_1).f1)).length : Int) then (spec_ShortestRound.l0 k1 (wrap64 ((rd t171 ((rd_T39 l0_1 x17_1).f1)) + 1)) (y186.set (((rd_T39 l0_1 x17_1).f1) : Int).toNat ((rd_L4 y186 ((rd_T39 l0_1 x17_1).f1)).set (((rd_T39 l0_1 x17_1).f0) : Int).toNat true)) l0_1 (l0_1.length : Int) (wrap64 (x17_1 + 1))) else (none)) = some (r1, r2) := by first | (rw [hy186]; with_reducible exact H) | (have H2_ := (Option.bind_some _ _).symm.trans H; rw [hy186]; with_reducible exact H2_) | (have H2_ := (Option.bind_some _ _).symm.trans H; with_reducible exact H2_) | with_reducible exact H | (rw [hy186]; exact H) | exact H
                  have Ny186 := Aside0.mk hy186
                  clear hy186
                  by_cases c56 : ((rd_T39 l0_1 x17_1).f0) < ((rd_L4 y186 ((rd_T39 l0_1 x17_1).f1)).length : Int)
                  ·rw [if_pos c56] at H
                   have c56b0 : decide (((rd_T39 l0_1 x17_1).f0) < ((rd_L4 y186 ((rd_T39 l0_1 x17_1).f1)).length : Int)) = true := decide_eq_true c56
                   clear c56
                   obtain ⟨y188, hy188⟩ : ∃ y_ : List Bool, y_ = ((rd_L4 y186 ((rd_T39 l0_1 x17_1).f1)).set (((rd_T39 l0_1 x17_1).f0) : Int).toNat true) := ⟨_, rfl⟩
                   replace H : (spec_ShortestRound.l0 k1 (wrap64 ((rd t171 ((rd_T39 l0_1 x17_1).f1)) + 1)) (y186.set (((rd_T39 l0_1 x17_1).f1) : Int).toNat y188) l0_1 (l0_1.length : Int) (wrap64 (x17_1 + 1))) = some (r1, r2) := by first | (rw [hy188]; with_reducible exact H) | (have H2_ := (Option.bind_some _ _).symm.trans H; rw [hy188]; with_reducible exact H2_) | (have H2_ := (Option.bind_some _ _).symm.trans H; with_reducible exact H2_) | with_reducible exact H | (rw [hy188]; exact H) | exact H
                   have Ny188 := Aside0.mk hy188
                   clear hy188
                   obtain ⟨y190, hy190⟩ : ∃ y_ : List (List Bool), y_ = (y186.set (((rd_T39 l0_1 x17_1).f1) : Int).toNat y188) := ⟨_, rfl⟩
                   replace H : (spec_ShortestRound.l0 k1 (wrap64 ((rd t171 ((rd_T39 l0_1 x17_1).f1)) + 1)) y190 l0_1 (l0_1.length : Int) (wrap64 (x17_1 + 1))) = some (r1, r2) := by first | (rw [hy190]; with_reducible exact H) | (have H2_ := (Option.bind_some _ _).symm.trans H; rw [hy190]; with_reducible exact H2_) | (have H2_ := (Option.bind_some _ _).symm.trans H; with_reducible exact H2_) | with_reducible exact H | (rw [hy190]; exact H) | exact H
                   have Ny190 := Aside0.mk hy190
                   clear hy190
                   have H' := Aside0.mk H
                   clear H
                   have p161 : 0 ≤ (x17_1 : Int) := oD_
                   have q161 : x17_1 < (l0_1.length : Int) := oD_
                   obtain ⟨ad161, e161, hx161_0, hx161_1⟩ := at_T39 HR0_1.out x17_1 p161 q161
                   cases e161
                   (try (replace hx161_0 := (HB.out.cell (World.block_lt_of_cell? w _ hx161_0)).trans hx161_0))
                   (try (replace hx161_1 := (HB.out.cell (World.block_lt_of_cell? w _ hx161_1)).trans hx161_1))
                   replace p161 := eq_true p161
                   replace q161 := eq_true q161
                   try go_wp2_with (first | ((with_reducible refine gate_dst (N := 7) rfl ?_); refine box_event ?hg (N := 7) ?hd (cs := #[.int .i64 0, .int .i64 0]) (t := 39) ?hr ?_; (case hd => rfl); (case hg => rfl); (case hr => first | (go_simp; done) | (go_simp; rfl)); intro gb162 hg w58 hbox hb; have n0_ := Aside0.mk (Kd.S_below (uS_ HO_5.out) hb); have n1_ := Aside0.mk (qaq (g := gb156) (o := .cells #[.int .i64 a0_0, .slice (some ad161) l0_1.length c0_1] 30 (0, 0)) (uB_ BK156.out) hb); have n2_ := Aside0.mk (qao (hB1_ GE156.out) hb); have n3_ := Aside0.mk (hbox); have n4_ := Aside0.mk ((by rw [hg]; exact (qap (hB1_ GE156.out)) : w.heap.size ≤ gb162)); have n5_ := n4_; have n6_ := Aside0.mk ((by rw [hg]; exact Nat.ne_of_lt (blk_lt (g := gb156) (o := .cells #[.int .i64 a0_0, .slice (some ad161) l0_1.length c0_1] 30 (0, 0)) (uB_ BK156.out)) : gb156 ≠ gb162)); have n7_ := Aside0.mk n6_.out.symm; clear HO_5; clear BK156; clear HB; have HO_5 := n0_; have BK156 := n1_; have HB := n2_; have BK162 := n3_; have GW162 := n4_; have GE162 := n5_; have NB156_162 := n6_; have NB162_156 := n7_; clear n0_ n1_ n2_ n3_ n4_ n5_ n6_ n7_; clear hb hbox hg; have hnb59 := NB162_156.out; have hnc59 := NB156_162.out; have hcz60_0 : w58.cell? ⟨gb162, 0, none⟩ = some (.int .i64 0) := (qaa BK162.out 0).trans rfl; have hcz60_1 : w58.cell? ⟨gb162, 1, none⟩ = some (.int .i64 0) := (qaa BK162.out 1).trans rfl; have hfz60_0 := qam BK162.out 0; have hfz60_1 := qam BK162.out 1))
                   have n0_ : Aside0 (Kd.S (Kd.slice 4 Kd.bool) 40 ((w58.setCell ⟨gb162, 0, none⟩ (.int .i64 ((rd_T39 l0_1 x17_1).f0))).setCell ⟨gb162, 1, none⟩ (.int .i64 ((rd_T39 l0_1 x17_1).f1))) w.heap.size (fun _ => True) v159 x5_1) := ⟨by (with_reducible repeat (first | apply Kd.S_alloc | apply Kd.S_drewN | apply Kd.S_drew)); exact Kd.S_mono (Kd.S_far (p := ⟨gb162, 1, none⟩) (Kd.S_far (p := ⟨gb162, 0, none⟩) (Kd.S_types HO_5.out BK162.out (by decide)) (fun _ hk => hk.2) (.int .i64 ((rd_T39 l0_1 x17_1).f0))) (fun _ hk => hk.2) (.int .i64 ((rd_T39 l0_1 x17_1).f1))) (fun _ hk => trivial)⟩
                   have n1_ : Aside0 (((w58.setCell ⟨gb162, 0, none⟩ (.int .i64 ((rd_T39 l0_1 x17_1).f0))).setCell ⟨gb162, 1, none⟩ (.int .i64 ((rd_T39 l0_1 x17_1).f1))).heap[gb156]? = some (.cells #[.int .i64 a0_0, .slice (some ad161) l0_1.length c0_1] 30 (0, 0))) := ⟨by (with_reducible repeat (first | refine qad ?_ _ | refine qab ?_ | refine qae ?_ _)); refine blk_far ?_ NB156_162.out _; (with_reducible repeat (first | refine qad ?_ _ | refine qab ?_ | refine qae ?_ _)); refine blk_far ?_ NB156_162.out _; (with_reducible repeat (first | refine qad ?_ _ | refine qab ?_ | refine qae ?_ _)); exact BK156.out⟩
                   have n2_ : Aside0 (((w58.setCell ⟨gb162, 0, none⟩ (.int .i64 ((rd_T39 l0_1 x17_1).f0))).setCell ⟨gb162, 1, none⟩ (.int .i64 ((rd_T39 l0_1 x17_1).f1))).heap[gb162]? = some (.cells #[.int .i64 ((rd_T39 l0_1 x17_1).f0), .int .i64 ((rd_T39 l0_1 x17_1).f1)] 39 (0, 0))) := ⟨by (with_reducible repeat (first | refine qad ?_ _ | refine qab ?_ | refine qae ?_ _)); refine blk_put (cs := #[.int .i64 ((rd_T39 l0_1 x17_1).f0), .int .i64 0]) ?_ 1 _ rfl; (with_reducible repeat (first | refine qad ?_ _ | refine qab ?_ | refine qae ?_ _)); refine blk_put (cs := #[.int .i64 0, .int .i64 0]) ?_ 0 _ rfl; (with_reducible repeat (first | refine qad ?_ _ | refine qab ?_ | refine qae ?_ _)); exact BK162.out⟩
                   have n3_ : Aside0 (Below w.heap.size w ((w58.setCell ⟨gb162, 0, none⟩ (.int .i64 ((rd_T39 l0_1 x17_1).f0))).setCell ⟨gb162, 1, none⟩ (.int .i64 ((rd_T39 l0_1 x17_1).f1)))) := ⟨by repeat (first | (with_reducible first | exact HB.out | apply qal | apply qac | apply qaf | refine qag ?_ GE156.out | refine qag ?_ GE162.out) | exact HB.out)⟩
                   (try clear HO_5)
                   (try clear BK156)
                   (try clear BK162)
                   (try clear HB)
                   generalize ((w58.setCell ⟨gb162, 0, none⟩ (.int .i64 ((rd_T39 l0_1 x17_1).f0))).setCell ⟨gb162, 1, none⟩ (.int .i64 ((rd_T39 l0_1 x17_1).f1))) = w61 at n0_ n1_ n2_ n3_ ⊢
                   have HO_5 := n0_
                   have BK156 := n1_
                   have BK162 := n2_
                   have HB := n3_
                   clear n0_ n1_ n2_ n3_
                   have n0_ := Aside0.mk (Kd.S_drew HO_5.out)
                   have n1_ := Aside0.mk (qab BK156.out)
                   have n2_ := Aside0.mk (qab BK162.out)
                   have n3_ := Aside0.mk (qaf HB.out)
                   clear HO_5
                   clear BK156
                   clear BK162
                   clear HB
                   have HO_5 := n0_
                   have BK156 := n1_
                   have BK162 := n2_
                   have HB := n3_
                   clear n0_ n1_ n2_ n3_
                   obtain ⟨Ao63, co63, eo63⟩ := Kd.S_slice HO_5.out
                   (first | subst eo63 | (injection eo63 with f1_ f2_ f3_; have f4_ := f1_.symm; have f5_ := f3_.symm; clear f1_ f2_ f3_; subst f4_; subst f5_))
                   have p163 : 0 ≤ (((rd_T39 l0_1 x17_1).f0) : Int) := oD_
                   have q163 : ((rd_T39 l0_1 x17_1).f0) < (x5_1.length : Int) := oD_
                   obtain ⟨ad163, A163_0, c163_0, e163, hx163_0, hl163_0, hi163_0⟩ := at_L4 (Kd.S_reads' HO_5.out).2.2 ((rd_T39 l0_1 x17_1).f0) p163 q163
                   cases e163
                   obtain ⟨ce163, hce163, hMe163, hcc163⟩ := Kd.S_get HO_5.out [] ((rd_T39 l0_1 x17_1).f0) p163 (by first | exact q163 | exact oD_ | (have e_ := (Kd.S_reads' HO_5.out).1; omega))
                   obtain ⟨ve163_0, rfl, ge163_0⟩ := hMe163
                   have hv163_0 := hcc163 0 _ rfl
                   rw [Nat.add_zero, show ((Kd.slice 4 Kd.bool)).sz = 1 from rfl, Nat.mul_one] at hv163_0
                   replace hv163_0 := Option.some.inj (hv163_0.symm.trans hx163_0)
                   rw [hv163_0] at ge163_0
                   have HL163_0 := Aside0.mk (show Kd.R Kd.bool 4 _ _ _ _ (rd_L4 x5_1 ((rd_T39 l0_1 x17_1).f0)) from ge163_0)
                   clear hv163_0 ge163_0
                   have HX163_0 := Aside0.mk hx163_0
                   clear hcc163 hce163
                   have HR163_0 := Aside0.mk hi163_0
                   have HC163_0 := Aside0.mk hl163_0
                   clear hi163_0 hl163_0
                   replace p163 := eq_true p163
                   replace q163 := eq_true q163
                   have p18 : 0 ≤ (((rd_T39 l0_1 x17_1).f1) : Int) := oD_
                   have q18 : (((rd_T39 l0_1 x17_1).f1) : Int) < (((rd_L4 x5_1 ((rd_T39 l0_1 x17_1).f0)).length : Int) : Int) := oD_
                   obtain ⟨go18, co18, eo18, gb18, gl18, cl18, HG18⟩ := Kd.R_form HL163_0.out (by omega)
                   (first | cases eo18 | (injection eo18 with ea_ en_ ec_; (first | subst ea_ | (injection ea_ with ea_; subst ea_)); subst ec_; clear en_))
                   have GB18 := Aside0.mk gb18
                   have GG18 := Aside0.mk HG18
                   clear gb18 gl18 HG18
                   obtain ⟨hx18_0, hf18_0⟩ := Kd.R_celln false HL163_0.out (((rd_T39 l0_1 x17_1).f1) : Int) p18 q18
                   replace p18 := eq_true p18
                   replace q18 := eq_true q18
                   have hq64 : (((rd_T39 l0_1 x17_1).f0) : Int) < (x5_1.length : Int) := (by have h_ : (((rd_T39 l0_1 x17_1).f0) : Int) < ((x5_1.length : Int) : Int) := oD_; first | exact h_ | (have e_ := (Kd.S_reads' HO_5.out).1; omega) | simpa only [List.length_set, List.length_set] using h_)
                   obtain ⟨oki64, ce64, hcl64, hM64, hcc64, hok64, hbk64⟩ := Kd.S_borrow HO_5.out [] (((rd_T39 l0_1 x17_1).f0) : Int) (oD_) (by first | exact hq64 | exact oD_ | (have e_ := (Kd.S_reads' HO_5.out).1; omega))
                   obtain ⟨ve64_0, rfl, ge64_0⟩ := hM64
                   have hv64 := hcc64 0 _ rfl
                   rw [Nat.add_zero, show ((Kd.slice 4 Kd.bool)).sz = 1 from rfl, Nat.mul_one] at hv64
                   replace hv64 := Option.some.inj (hv64.symm.trans HX163_0.out)
                   subst hv64
                   clear hcc64 hcl64
                   replace ge64_0 := (show Kd.R Kd.bool 4 _ _ _ _ (rd_L4 x5_1 ((rd_T39 l0_1 x17_1).f0)) from ge64_0)
                   have HP64 := Kd.R_putg ge64_0 (((rd_T39 l0_1 x17_1).f1) : Int) false
                   rw [← Ny164.out] at HP64
                   have HS64 := hbk64 HP64.2 (fun k_ e_ => by injection e_ with e_; subst e_; exact ge64_0.1 _ rfl) (x' := y164) (Kd.M_row HP64.1)
                   rw [← Ny166.out] at HS64
                   have HQ64 := Aside0.mk HS64
                   clear HP64 HS64 hbk64 hok64
                   refine start_ (n := 9) (S := fun w' => w'.cell? ⟨gb162, 0, none⟩ = some (.int .i64 ((rd_T39 l0_1 x17_1).f0)) ∧ w'.cell? ⟨gb162, 1, none⟩ = some (.int .i64 ((rd_T39 l0_1 x17_1).f1)) ∧ w'.cell? (ad163.add (((rd_T39 l0_1 x17_1).f0)).toNat) = some (.slice (some ⟨go18, 0, none⟩) (rd_L4 x5_1 ((rd_T39 l0_1 x17_1).f0)).length c163_0)) (ds := [8]) #[fF,fF,fF,fF,fF,fF,fF,fF,fF] (by kernel_rfl) rfl rfl ⟨(qaa BK162.out 0).trans rfl, (qaa BK162.out 1).trans rfl, hx163_0⟩ (fun hHeld => ?_); refine with_tabW spec_ShortestRound.tab8 spec_ShortestRound.bits8 (fun HT_ HW_ => ?_)
                   generalize w61.drew = w62 at HO_5 BK156 BK162 HB GG18 HL163_0 HQ64 HR163_0 HX163_0 hf18_0 hx163_0 hx18_0 hHeld ⊢
                   refine qan (i := 0) (N := some 21) (v := ?_) (a' := ?_) #[tT,fF,fF,fF,fF,fF,fF,fF,fF] rfl rfl (aO_ HT_.out) (fun _ _ _ h => h) (.inl ⟨by rfl, ?_⟩) ?_ ?_
                   rotate_left
                   ·intro w'
                    go_simp
                    with_reducible rfl
                   rotate_left
                   ·simp only [Act.put, sP_, qai, qaj]
                    rfl
                   refine qan (i := 1) (N := some 22) (v := ?_) (a' := ?_) #[tT,tT,fF,fF,fF,fF,fF,fF,fF] rfl rfl (aO_ HT_.out) (fun _ _ _ h => h) (.inl ⟨by rfl, ?_⟩) ?_ ?_
                   rotate_left
                   ·intro w'
                    go_simp
                    with_reducible rfl
                   rotate_left
                   ·simp only [Act.put, sP_, qai, qaj]
                    rfl
                   refine qan (i := 5) (N := some 26) (v := ?_) (a' := ?_) #[tT,tT,fF,fF,fF,tT,fF,fF,fF] rfl rfl (aO_ HT_.out) (fun _ _ _ h => h) (.inl ⟨by rfl, ?_⟩) ?_ ?_
                   rotate_left
                   ·intro w'
                    go_simp
                    with_reducible rfl
                   rotate_left
                   ·simp only [Act.put, sP_, qai, qaj]
                    rfl
                   refine take_ (i := 2) (N := some 23) (v := ?_) (a' := ?_) #[tT,tT,tT,fF,fF,tT,fF,fF,fF] rfl rfl (qar HT_.out HW_.out (by kernel_rfl)) (fun _ _ _ h => h) (Or.inl ⟨by rfl, ?_⟩) hHeld ?_ ?_
                   rotate_left
                   ·rintro w' ⟨s0, s1, s2⟩
                    go_simp
                    with_reducible rfl
                   rotate_left
                   ·simp only [Act.put, sP_, qai, qaj]
                    rfl
                   refine qan (i := 3) (N := some 24) (v := ?_) (a' := ?_) #[tT,tT,tT,tT,fF,tT,fF,fF,fF] rfl rfl (aO_ HT_.out) (fun _ _ _ h => h) (.inl ⟨by rfl, ?_⟩) ?_ ?_
                   rotate_left
                   ·intro w'
                    go_simp
                    with_reducible rfl
                   rotate_left
                   ·simp only [Act.put, sP_, qai, qaj]
                    rfl
                   refine take_ (i := 4) (N := some 25) (v := ?_) (a' := ?_) #[tT,tT,tT,tT,tT,tT,fF,fF,fF] rfl rfl (qar HT_.out HW_.out (by kernel_rfl)) (fun _ _ _ h => h) (Or.inl ⟨by rfl, ?_⟩) hHeld ?_ ?_
                   rotate_left
                   ·rintro w' ⟨s0, s1, s2⟩
                    go_simp
                    with_reducible rfl
                   rotate_left
                   ·simp only [Act.put, sP_, qai, qaj]
                    rfl
                   refine take_ (i := 6) (N := some 27) (v := ?_) (a' := ?_) #[tT,tT,tT,tT,tT,tT,tT,fF,fF] rfl rfl (qar HT_.out HW_.out (by kernel_rfl)) (fun _ _ _ h => h) (Or.inl ⟨by rfl, ?_⟩) hHeld ?_ ?_
                   rotate_left
                   ·rintro w' ⟨s0, s1, s2⟩
                    go_simp
                    with_reducible rfl
                   rotate_left
                   ·simp only [Act.put, sP_, qai, qaj]
                    rfl
                   refine qan (i := 7) (N := some 28) (v := ?_) (a' := ?_) #[tT,tT,tT,tT,tT,tT,tT,tT,fF] rfl rfl (aO_ HT_.out) (fun _ _ _ h => h) (.inl ⟨by rfl, ?_⟩) ?_ ?_
                   rotate_left
                   ·intro w'
                    go_simp
                    with_reducible rfl
                   rotate_left
                   ·simp only [Act.put, sP_, qai, qaj]
                    rfl
                   refine last_ (i := 8) (N := none) #[tT,tT,tT,tT,tT,tT,tT,tT,tT] rfl rfl (one_of HT_.out (by kernel_rfl)) (by decide) (fun K hK => ?_)
                   refine skip_ (w1 := ?_) (by rfl) rfl ?_ ?_
                   rotate_left
                   ·go_simp
                    rfl
                   refine hK.out _ _ ?_
                   clear hK K
                   refine done_ (done_of HT_.out (by kernel_rfl)) ?_
                   try go_wp2
                   have n0_ : Aside0 (Kd.S (Kd.slice 4 Kd.bool) 40 (w62.setCell ⟨go18, (((rd_T39 l0_1 x17_1).f1) : Int).toNat, none⟩ (.bool false)) w.heap.size (fun _ => True) (.slice (some ad163) x5_1.length co63) y166) := ⟨by (with_reducible repeat (first | apply Kd.S_alloc | apply Kd.S_drewN | apply Kd.S_drew)); exact HQ64.out⟩
                   have n1_ : Aside0 ((w62.setCell ⟨go18, (((rd_T39 l0_1 x17_1).f1) : Int).toNat, none⟩ (.bool false)).heap[gb156]? = some (.cells #[.int .i64 a0_0, .slice (some ad161) l0_1.length c0_1] 30 (0, 0))) := ⟨by (with_reducible repeat (first | refine qad ?_ _ | refine qab ?_ | refine qae ?_ _)); refine blk_far ?_ (by have h_ := Kd.R_ne HL163_0.out BK156.out (by decide); intro e_; exact h_ (by rw [e_]; rfl)) _; (with_reducible repeat (first | refine qad ?_ _ | refine qab ?_ | refine qae ?_ _)); exact BK156.out⟩
                   have n2_ : Aside0 ((w62.setCell ⟨go18, (((rd_T39 l0_1 x17_1).f1) : Int).toNat, none⟩ (.bool false)).heap[gb162]? = some (.cells #[.int .i64 ((rd_T39 l0_1 x17_1).f0), .int .i64 ((rd_T39 l0_1 x17_1).f1)] 39 (0, 0))) := ⟨by (with_reducible repeat (first | refine qad ?_ _ | refine qab ?_ | refine qae ?_ _)); refine blk_far ?_ (by have h_ := Kd.R_ne HL163_0.out BK162.out (by decide); intro e_; exact h_ (by rw [e_]; rfl)) _; (with_reducible repeat (first | refine qad ?_ _ | refine qab ?_ | refine qae ?_ _)); exact BK162.out⟩
                   have n3_ : Aside0 (Below w.heap.size w (w62.setCell ⟨go18, (((rd_T39 l0_1 x17_1).f1) : Int).toNat, none⟩ (.bool false))) := ⟨by repeat (first | (with_reducible first | exact HB.out | apply qal | apply qac | apply qaf | refine qag ?_ GB18.out | refine qag ?_ GE156.out | refine qag ?_ GE162.out) | exact HB.out)⟩
                   (try clear HO_5)
                   (try clear BK156)
                   (try clear BK162)
                   (try clear HB)
                   generalize (w62.setCell ⟨go18, (((rd_T39 l0_1 x17_1).f1) : Int).toNat, none⟩ (.bool false)) = w66 at n0_ n1_ n2_ n3_ ⊢
                   have HO_5 := n0_
                   have BK156 := n1_
                   have BK162 := n2_
                   have HB := n3_
                   clear n0_ n1_ n2_ n3_
                   have n0_ := Aside0.mk (Kd.S_drew HO_5.out)
                   have n1_ := Aside0.mk (qab BK156.out)
                   have n2_ := Aside0.mk (qab BK162.out)
                   have n3_ := Aside0.mk (qaf HB.out)
                   clear HO_5
                   clear BK156
                   clear BK162
                   clear HB
                   have HO_5 := n0_
                   have BK156 := n1_
                   have BK162 := n2_
                   have HB := n3_
                   clear n0_ n1_ n2_ n3_
                   have p167 : 0 ≤ (((rd_T39 l0_1 x17_1).f1) : Int) := oD_
                   have q167 : ((rd_T39 l0_1 x17_1).f1) < (y166.length : Int) := (by have h_ : (((rd_T39 l0_1 x17_1).f1) : Int) < ((x5_1.length : Int) : Int) := oD_; first | (have e_ := (Kd.S_reads' HO_5.out).1; omega) | simpa only [Ny166.out, List.length_set] using h_)
                   have ql167 : ((((rd_T39 l0_1 x17_1).f1) : Int) < ((x5_1.length : Int) : Int)) = True := eq_true (oD_)
                   obtain ⟨ad167, A167_0, c167_0, e167, hx167_0, hl167_0, hi167_0⟩ := at_L4 (Kd.S_reads' HO_5.out).2.2 ((rd_T39 l0_1 x17_1).f1) p167 q167
                   obtain rfl : ad163 = ad167 := (by injection e167)
                   obtain ⟨ce167, hce167, hMe167, hcc167⟩ := Kd.S_get HO_5.out [] ((rd_T39 l0_1 x17_1).f1) p167 (by first | exact q167 | exact oD_ | (have e_ := (Kd.S_reads' HO_5.out).1; omega))
                   obtain ⟨ve167_0, rfl, ge167_0⟩ := hMe167
                   have hv167_0 := hcc167 0 _ rfl
                   rw [Nat.add_zero, show ((Kd.slice 4 Kd.bool)).sz = 1 from rfl, Nat.mul_one] at hv167_0
                   replace hv167_0 := Option.some.inj (hv167_0.symm.trans hx167_0)
                   rw [hv167_0] at ge167_0
                   have HL167_0 := Aside0.mk (show Kd.R Kd.bool 4 _ _ _ _ (rd_L4 y166 ((rd_T39 l0_1 x17_1).f1)) from ge167_0)
                   clear hv167_0 ge167_0
                   have HX167_0 := Aside0.mk hx167_0
                   clear hcc167 hce167
                   have HR167_0 := Aside0.mk hi167_0
                   have HC167_0 := Aside0.mk hl167_0
                   clear hi167_0 hl167_0
                   replace p167 := eq_true p167
                   replace q167 := eq_true q167
                   have p21 : 0 ≤ (((rd_T39 l0_1 x17_1).f0) : Int) := oD_
                   have q21 : (((rd_T39 l0_1 x17_1).f0) : Int) < (((rd_L4 y166 ((rd_T39 l0_1 x17_1).f1)).length : Int) : Int) := oD_
                   obtain ⟨go21, co21, eo21, gb21, gl21, cl21, HG21⟩ := Kd.R_form HL167_0.out (by omega)
                   (first | cases eo21 | (injection eo21 with ea_ en_ ec_; (first | subst ea_ | (injection ea_ with ea_; subst ea_)); subst ec_; clear en_))
                   have GB21 := Aside0.mk gb21
                   have GG21 := Aside0.mk HG21
                   clear gb21 gl21 HG21
                   obtain ⟨hx21_0, hf21_0⟩ := Kd.R_celln false HL167_0.out (((rd_T39 l0_1 x17_1).f0) : Int) p21 q21
                   replace p21 := eq_true p21
                   replace q21 := eq_true q21
                   have hq68 : (((rd_T39 l0_1 x17_1).f1) : Int) < (y166.length : Int) := (by have h_ : (((rd_T39 l0_1 x17_1).f1) : Int) < ((x5_1.length : Int) : Int) := oD_; first | exact h_ | (have e_ := (Kd.S_reads' HO_5.out).1; omega) | simpa only [Ny166.out, List.length_set] using h_)
                   obtain ⟨oki68, ce68, hcl68, hM68, hcc68, hok68, hbk68⟩ := Kd.S_borrow HO_5.out [] (((rd_T39 l0_1 x17_1).f1) : Int) (oD_) (by first | exact hq68 | exact oD_ | (have e_ := (Kd.S_reads' HO_5.out).1; omega))
                   obtain ⟨ve68_0, rfl, ge68_0⟩ := hM68
                   have hv68 := hcc68 0 _ rfl
                   rw [Nat.add_zero, show ((Kd.slice 4 Kd.bool)).sz = 1 from rfl, Nat.mul_one] at hv68
                   replace hv68 := Option.some.inj (hv68.symm.trans HX167_0.out)
                   subst hv68
                   clear hcc68 hcl68
                   replace ge68_0 := (show Kd.R Kd.bool 4 _ _ _ _ (rd_L4 y166 ((rd_T39 l0_1 x17_1).f1)) from ge68_0)
                   have HP68 := Kd.R_putg ge68_0 (((rd_T39 l0_1 x17_1).f0) : Int) false
                   rw [← Ny168.out] at HP68
                   have HS68 := hbk68 HP68.2 (fun k_ e_ => by injection e_ with e_; subst e_; exact ge68_0.1 _ rfl) (x' := y168) (Kd.M_row HP68.1)
                   rw [← Ny170.out] at HS68
                   have HQ68 := Aside0.mk HS68
                   clear HP68 HS68 hbk68 hok68
                   refine start_ (n := 9) (S := fun w' => w'.cell? ⟨gb162, 0, none⟩ = some (.int .i64 ((rd_T39 l0_1 x17_1).f0)) ∧ w'.cell? ⟨gb162, 1, none⟩ = some (.int .i64 ((rd_T39 l0_1 x17_1).f1)) ∧ w'.cell? (ad163.add (((rd_T39 l0_1 x17_1).f1)).toNat) = some (.slice (some ⟨go21, 0, none⟩) (rd_L4 y166 ((rd_T39 l0_1 x17_1).f1)).length c167_0)) (ds := [8]) #[fF,fF,fF,fF,fF,fF,fF,fF,fF] (by kernel_rfl) rfl rfl ⟨(qaa BK162.out 0).trans rfl, (qaa BK162.out 1).trans rfl, hx167_0⟩ (fun hHeld => ?_); refine with_tabW spec_ShortestRound.tab9 spec_ShortestRound.bits9 (fun HT_ HW_ => ?_)
                   generalize w66.drew = w67 at HO_5 BK156 BK162 HB GG21 HL167_0 HQ64 HQ68 HR167_0 HX167_0 hf21_0 hx167_0 hx21_0 hHeld ⊢
                   refine qan (i := 0) (N := some 29) (v := ?_) (a' := ?_) #[tT,fF,fF,fF,fF,fF,fF,fF,fF] rfl rfl (aO_ HT_.out) (fun _ _ _ h => h) (.inl ⟨by rfl, ?_⟩) ?_ ?_
                   rotate_left
                   ·intro w'
                    go_simp
                    with_reducible rfl
                   rotate_left
                   ·simp only [Act.put, sP_, qai, qaj]
                    rfl
                   refine qan (i := 1) (N := some 30) (v := ?_) (a' := ?_) #[tT,tT,fF,fF,fF,fF,fF,fF,fF] rfl rfl (aO_ HT_.out) (fun _ _ _ h => h) (.inl ⟨by rfl, ?_⟩) ?_ ?_
                   rotate_left
                   ·intro w'
                    go_simp
                    with_reducible rfl
                   rotate_left
                   ·simp only [Act.put, sP_, qai, qaj]
                    rfl
                   refine qan (i := 5) (N := some 34) (v := ?_) (a' := ?_) #[tT,tT,fF,fF,fF,tT,fF,fF,fF] rfl rfl (aO_ HT_.out) (fun _ _ _ h => h) (.inl ⟨by rfl, ?_⟩) ?_ ?_
                   rotate_left
                   ·intro w'
                    go_simp
                    with_reducible rfl
                   rotate_left
                   ·simp only [Act.put, sP_, qai, qaj]
                    rfl
                   refine take_ (i := 2) (N := some 31) (v := ?_) (a' := ?_) #[tT,tT,tT,fF,fF,tT,fF,fF,fF] rfl rfl (qar HT_.out HW_.out (by kernel_rfl)) (fun _ _ _ h => h) (Or.inl ⟨by rfl, ?_⟩) hHeld ?_ ?_
                   rotate_left
                   ·rintro w' ⟨s0, s1, s2⟩
                    go_simp
                    with_reducible rfl
                   rotate_left
                   ·simp only [Act.put, sP_, qai, qaj]
                    rfl
                   refine qan (i := 3) (N := some 32) (v := ?_) (a' := ?_) #[tT,tT,tT,tT,fF,tT,fF,fF,fF] rfl rfl (aO_ HT_.out) (fun _ _ _ h => h) (.inl ⟨by rfl, ?_⟩) ?_ ?_
                   rotate_left
                   ·intro w'
                    go_simp
                    with_reducible rfl
                   rotate_left
                   ·simp only [Act.put, sP_, qai, qaj]
                    rfl
                   refine take_ (i := 4) (N := some 33) (v := ?_) (a' := ?_) #[tT,tT,tT,tT,tT,tT,fF,fF,fF] rfl rfl (qar HT_.out HW_.out (by kernel_rfl)) (fun _ _ _ h => h) (Or.inl ⟨by rfl, ?_⟩) hHeld ?_ ?_
                   rotate_left
                   ·rintro w' ⟨s0, s1, s2⟩
                    go_simp
                    with_reducible rfl
                   rotate_left
                   ·simp only [Act.put, sP_, qai, qaj]
                    rfl
                   refine take_ (i := 6) (N := some 35) (v := ?_) (a' := ?_) #[tT,tT,tT,tT,tT,tT,tT,fF,fF] rfl rfl (qar HT_.out HW_.out (by kernel_rfl)) (fun _ _ _ h => h) (Or.inl ⟨by rfl, ?_⟩) hHeld ?_ ?_
                   rotate_left
                   ·rintro w' ⟨s0, s1, s2⟩
                    go_simp
                    with_reducible rfl
                   rotate_left
                   ·simp only [Act.put, sP_, qai, qaj]
                    rfl
                   refine qan (i := 7) (N := some 36) (v := ?_) (a' := ?_) #[tT,tT,tT,tT,tT,tT,tT,tT,fF] rfl rfl (aO_ HT_.out) (fun _ _ _ h => h) (.inl ⟨by rfl, ?_⟩) ?_ ?_
                   rotate_left
                   ·intro w'
                    go_simp
                    with_reducible rfl
                   rotate_left
                   ·simp only [Act.put, sP_, qai, qaj]
                    rfl
                   refine last_ (i := 8) (N := none) #[tT,tT,tT,tT,tT,tT,tT,tT,tT] rfl rfl (one_of HT_.out (by kernel_rfl)) (by decide) (fun K hK => ?_)
                   refine skip_ (w1 := ?_) (by rfl) rfl ?_ ?_
                   rotate_left
                   ·go_simp
                    rfl
                   refine hK.out _ _ ?_
                   clear hK K
                   refine done_ (done_of HT_.out (by kernel_rfl)) ?_
                   try go_wp2
                   have n0_ : Aside0 (Kd.S (Kd.slice 4 Kd.bool) 40 (w67.setCell ⟨go21, (((rd_T39 l0_1 x17_1).f0) : Int).toNat, none⟩ (.bool false)) w.heap.size (fun _ => True) (.slice (some ad163) x5_1.length co63) y170) := ⟨by (with_reducible repeat (first | apply Kd.S_alloc | apply Kd.S_drewN | apply Kd.S_drew)); exact HQ68.out⟩
                   have n1_ : Aside0 ((w67.setCell ⟨go21, (((rd_T39 l0_1 x17_1).f0) : Int).toNat, none⟩ (.bool false)).heap[gb156]? = some (.cells #[.int .i64 a0_0, .slice (some ad161) l0_1.length c0_1] 30 (0, 0))) := ⟨by (with_reducible repeat (first | refine qad ?_ _ | refine qab ?_ | refine qae ?_ _)); refine blk_far ?_ (by have h_ := Kd.R_ne HL167_0.out BK156.out (by decide); intro e_; exact h_ (by rw [e_]; rfl)) _; (with_reducible repeat (first | refine qad ?_ _ | refine qab ?_ | refine qae ?_ _)); exact BK156.out⟩
                   have n2_ : Aside0 ((w67.setCell ⟨go21, (((rd_T39 l0_1 x17_1).f0) : Int).toNat, none⟩ (.bool false)).heap[gb162]? = some (.cells #[.int .i64 ((rd_T39 l0_1 x17_1).f0), .int .i64 ((rd_T39 l0_1 x17_1).f1)] 39 (0, 0))) := ⟨by (with_reducible repeat (first | refine qad ?_ _ | refine qab ?_ | refine qae ?_ _)); refine blk_far ?_ (by have h_ := Kd.R_ne HL167_0.out BK162.out (by decide); intro e_; exact h_ (by rw [e_]; rfl)) _; (with_reducible repeat (first | refine qad ?_ _ | refine qab ?_ | refine qae ?_ _)); exact BK162.out⟩
                   have n3_ : Aside0 (Below w.heap.size w (w67.setCell ⟨go21, (((rd_T39 l0_1 x17_1).f0) : Int).toNat, none⟩ (.bool false))) := ⟨by repeat (first | (with_reducible first | exact HB.out | apply qal | apply qac | apply qaf | refine qag ?_ GB21.out | refine qag ?_ GE156.out | refine qag ?_ GE162.out) | exact HB.out)⟩
                   (try clear HO_5)
                   (try clear BK156)
                   (try clear BK162)
                   (try clear HB)
                   generalize (w67.setCell ⟨go21, (((rd_T39 l0_1 x17_1).f0) : Int).toNat, none⟩ (.bool false)) = w70 at n0_ n1_ n2_ n3_ ⊢
                   have HO_5 := n0_
                   have BK156 := n1_
                   have BK162 := n2_
                   have HB := n3_
                   clear n0_ n1_ n2_ n3_
                   have n0_ := Aside0.mk (Kd.S_drew HO_5.out)
                   have n1_ := Aside0.mk (qab BK156.out)
                   have n2_ := Aside0.mk (qab BK162.out)
                   have n3_ := Aside0.mk (qaf HB.out)
                   clear HO_5
                   clear BK156
                   clear BK162
                   clear HB
                   have HO_5 := n0_
                   have BK156 := n1_
                   have BK162 := n2_
                   have HB := n3_
                   clear n0_ n1_ n2_ n3_
                   refine start_ (n := 9) (S := fun w' => w'.cell? ⟨gb162, 0, none⟩ = some (.int .i64 ((rd_T39 l0_1 x17_1).f0)) ∧ w'.cell? ⟨gb162, 1, none⟩ = some (.int .i64 ((rd_T39 l0_1 x17_1).f1))) (ds := []) #[fF,fF,fF,fF,fF,fF,fF,fF,fF] (by kernel_rfl) rfl rfl ⟨(qaa BK162.out 0).trans rfl, (qaa BK162.out 1).trans rfl⟩ (fun hHeld => ?_); refine with_tabW spec_ShortestRound.tab10 spec_ShortestRound.bits10 (fun HT_ HW_ => ?_)
                   generalize w70.drew = w71 at HO_5 BK156 BK162 HB HQ68 hHeld ⊢
                   refine qan (i := 0) (N := some 37) (v := ?_) (a' := ?_) #[tT,fF,fF,fF,fF,fF,fF,fF,fF] rfl rfl (aO_ HT_.out) (fun _ _ _ h => h) (.inl ⟨by rfl, ?_⟩) ?_ ?_
                   rotate_left
                   ·intro w'
                    go_simp
                    with_reducible rfl
                   rotate_left
                   ·simp only [Act.put, sP_, qai, qaj]
                    rfl
                   refine qan (i := 1) (N := some 38) (v := ?_) (a' := ?_) #[tT,tT,fF,fF,fF,fF,fF,fF,fF] rfl rfl (aO_ HT_.out) (fun _ _ _ h => h) (.inl ⟨by rfl, ?_⟩) ?_ ?_
                   rotate_left
                   ·intro w'
                    go_simp
                    with_reducible rfl
                   rotate_left
                   ·simp only [Act.put, sP_, qai, qaj]
                    rfl
                   refine qan (i := 4) (N := some 41) (v := ?_) (a' := ?_) #[tT,tT,fF,fF,tT,fF,fF,fF,fF] rfl rfl (aO_ HT_.out) (fun _ _ _ h => h) (.inl ⟨by rfl, ?_⟩) ?_ ?_
                   rotate_left
                   ·intro w'
                    go_simp
                    with_reducible rfl
                   rotate_left
                   ·simp only [Act.put, sP_, qai, qaj]
                    rfl
                   refine take_ (i := 2) (N := some 39) (v := ?_) (a' := ?_) #[tT,tT,tT,fF,tT,fF,fF,fF,fF] rfl rfl (qar HT_.out HW_.out (by kernel_rfl)) (fun _ _ _ h => h) (Or.inl ⟨by rfl, ?_⟩) hHeld ?_ ?_
                   rotate_left
                   ·rintro w' ⟨s0, s1⟩
                    go_simp
                    with_reducible rfl
                   rotate_left
                   ·simp only [Act.put, sP_, qai, qaj]
                    rfl
                   refine take_ (i := 5) (N := some 42) (v := ?_) (a' := ?_) #[tT,tT,tT,fF,tT,tT,fF,fF,fF] rfl rfl (qar HT_.out HW_.out (by kernel_rfl)) (fun _ _ _ h => h) (Or.inl ⟨by rfl, ?_⟩) hHeld ?_ ?_
                   rotate_left
                   ·rintro w' ⟨s0, s1⟩
                    go_simp
                    with_reducible rfl
                   rotate_left
                   ·simp only [Act.put, sP_, qai, qaj]
                    rfl
                   refine one_ (i := 3) (N := some 40) #[tT,tT,tT,tT,tT,tT,fF,fF,fF] rfl rfl (one_of HT_.out (by kernel_rfl)) (by decide) (fun K hK => ?_)
                   refine goes_ Tryd.func12 (by kernel_rfl) rfl #[.slice (some ad163) y170.length co63, .int .i64 ((rd_T39 l0_1 x17_1).f0)] (by rfl) rfl rfl (by (try simp only [List.map_toArray, List.map_cons, List.map_nil]); first | done | (rw [show y170.length = x5_1.length from (Kd.S_reads' HO_5.out).1.symm] <;> rfl) | rfl | (simp only [List.length_drop, List.length_take]; rfl)) ?_
                   with_reducible refine (spec_cfDistances.calls k1 _ _ y170 ((rd_T39 l0_1 x17_1).f0) t171 _ ?side1 ?side2 A22.out).mono ?_
                   (case side1 => repeat (first | exact (Kd.S_reads' HO_5.out).2.2 | (with_reducible refine Kd.C_alloc ?_ _) | (with_reducible refine Kd.C_drewN ?_ _) | (with_reducible refine Kd.C_drew ?_)))
                   (case side2 => rw [show y170.length = x5_1.length from (Kd.S_reads' HO_5.out).1.symm]; exact (Kd.S_reads' HO_5.out).2.1)
                   rintro e w72 ⟨v172, rfl, ho0, hb⟩
                   refine ⟨_, rfl, ?_⟩
                   have n0_ := Aside0.mk (Kd.S_below (uS_ HO_5.out) hb)
                   have n1_ := Aside0.mk (Kd.R_lower ho0 (qap (hB2_ GE156.out GE162.out)))
                   have n2_ := Aside0.mk (qaq (g := gb156) (o := .cells #[.int .i64 a0_0, .slice (some ad161) l0_1.length c0_1] 30 (0, 0)) (uB_ BK156.out) hb)
                   have n3_ := Aside0.mk (qaq (g := gb162) (o := .cells #[.int .i64 ((rd_T39 l0_1 x17_1).f0), .int .i64 ((rd_T39 l0_1 x17_1).f1)] 39 (0, 0)) (uB_ BK162.out) hb)
                   have n4_ := Aside0.mk (qao (hB2_ GE156.out GE162.out) hb)
                   clear HO_5
                   clear BK156
                   clear BK162
                   clear HB
                   have HO_5 := n0_
                   have HO173 := n1_
                   have BK156 := n2_
                   have BK162 := n3_
                   have HB := n4_
                   clear n0_ n1_ n2_ n3_ n4_
                   (try clear hb)
                   (try clear hb2)
                   (try clear hk)
                   (try clear hi)
                   (try clear ho0)
                   obtain ⟨Ao73, co73, eo73⟩ := Kd.R_slice HO173.out
                   (first | subst eo73 | (injection eo73 with f1_ f2_ f3_; have f4_ := f1_.symm; have f5_ := f3_.symm; clear f1_ f2_ f3_; subst f4_; subst f5_))
                   have p174 : 0 ≤ (((rd_T39 l0_1 x17_1).f1) : Int) := oD_
                   have q174 : ((rd_T39 l0_1 x17_1).f1) < (t171.length : Int) := oD_
                   obtain ⟨ad174, e174, hx174_0⟩ := Kd.at_int (Kd.R_reads' HO173.out).2.2 ((rd_T39 l0_1 x17_1).f1) p174 q174
                   cases e174
                   replace p174 := eq_true p174
                   replace q174 := eq_true q174
                   refine hK.out _ _ ⟨(qaa BK162.out 0).trans rfl, (qaa BK162.out 1).trans rfl⟩ (fun hHeld => ?_)
                   clear hK K
                   refine norm_ (a' := ?_) ?_ ?_
                   rotate_left
                   ·show Act.put _ (some 40) _ = _
                    simp only [Act.put, sP_, qai, qaj]
                    rfl
                   refine qan (i := 6) (N := some 43) (v := ?_) (a' := ?_) #[tT,tT,tT,tT,tT,tT,tT,fF,fF] rfl rfl (aO_ HT_.out) (fun _ _ _ h => h) (.inl ⟨by rfl, ?_⟩) ?_ ?_
                   rotate_left
                   ·intro w'
                    go_simp
                    with_reducible rfl
                   rotate_left
                   ·simp only [Act.put, sP_, qai, qaj]
                    rfl
                   refine one_ (i := 7) (N := some 44) #[tT,tT,tT,tT,tT,tT,tT,tT,fF] rfl rfl (one_of HT_.out (by kernel_rfl)) (by decide) (fun K hK => ?_)
                   refine event_step (v := .int .i64 (rd t171 ((rd_T39 l0_1 x17_1).f1))) (by rfl) (by go_simp; with_reducible rfl) ?_
                   refine hK.out _ _ hHeld (fun hHeld => ?_)
                   clear hK K
                   refine norm_ (a' := ?_) ?_ ?_
                   rotate_left
                   ·show Act.put _ (some 44) _ = _
                    simp only [Act.put, sP_, qai, qaj]
                    rfl
                   refine qan (i := 8) (N := some 8) (v := ?_) (a' := ?_) #[tT,tT,tT,tT,tT,tT,tT,tT,tT] rfl rfl (aO_ HT_.out) (fun _ _ _ h => h) (.inl ⟨by rfl, ?_⟩) ?_ ?_
                   rotate_left
                   ·intro w'
                    go_simp
                    with_reducible rfl
                   rotate_left
                   ·simp only [Act.put, sP_, qai, qaj]
                    rfl
                   refine done_ (done_of HT_.out (by kernel_rfl)) ?_
                   try go_wp2
                   have n0_ := Aside0.mk (Kd.S_drew HO_5.out)
                   have n1_ := Aside0.mk (Kd.R_drew HO173.out)
                   have n2_ := Aside0.mk (qab BK156.out)
                   have n3_ := Aside0.mk (qab BK162.out)
                   have n4_ := Aside0.mk (qaf HB.out)
                   clear HO_5
                   clear HO173
                   clear BK156
                   clear BK162
                   clear HB
                   have HO_5 := n0_
                   have HO173 := n1_
                   have BK156 := n2_
                   have BK162 := n3_
                   have HB := n4_
                   clear n0_ n1_ n2_ n3_ n4_
                   have p183 : 0 ≤ (((rd_T39 l0_1 x17_1).f0) : Int) := oD_
                   have q183 : ((rd_T39 l0_1 x17_1).f0) < (y170.length : Int) := (by have h_ : (((rd_T39 l0_1 x17_1).f0) : Int) < ((x5_1.length : Int) : Int) := oD_; first | (have e_ := (Kd.S_reads' HO_5.out).1; omega) | simpa only [Ny166.out, Ny170.out, List.length_set] using h_)
                   have ql183 : ((((rd_T39 l0_1 x17_1).f0) : Int) < ((x5_1.length : Int) : Int)) = True := eq_true (oD_)
                   obtain ⟨ad183, A183_0, c183_0, e183, hx183_0, hl183_0, hi183_0⟩ := at_L4 (Kd.S_reads' HO_5.out).2.2 ((rd_T39 l0_1 x17_1).f0) p183 q183
                   obtain rfl : ad163 = ad183 := (by injection e183)
                   obtain ⟨ce183, hce183, hMe183, hcc183⟩ := Kd.S_get HO_5.out [] ((rd_T39 l0_1 x17_1).f0) p183 (by first | exact q183 | exact oD_ | (have e_ := (Kd.S_reads' HO_5.out).1; omega))
                   obtain ⟨ve183_0, rfl, ge183_0⟩ := hMe183
                   have hv183_0 := hcc183 0 _ rfl
                   rw [Nat.add_zero, show ((Kd.slice 4 Kd.bool)).sz = 1 from rfl, Nat.mul_one] at hv183_0
                   replace hv183_0 := Option.some.inj (hv183_0.symm.trans hx183_0)
                   rw [hv183_0] at ge183_0
                   have HL183_0 := Aside0.mk (show Kd.R Kd.bool 4 _ _ _ _ (rd_L4 y170 ((rd_T39 l0_1 x17_1).f0)) from ge183_0)
                   clear hv183_0 ge183_0
                   have HX183_0 := Aside0.mk hx183_0
                   clear hcc183 hce183
                   have HR183_0 := Aside0.mk hi183_0
                   have HC183_0 := Aside0.mk hl183_0
                   clear hi183_0 hl183_0
                   replace p183 := eq_true p183
                   replace q183 := eq_true q183
                   have p55 : 0 ≤ (((rd_T39 l0_1 x17_1).f1) : Int) := oD_
                   have q55 : (((rd_T39 l0_1 x17_1).f1) : Int) < (((rd_L4 y170 ((rd_T39 l0_1 x17_1).f0)).length : Int) : Int) := oD_
                   obtain ⟨go55, co55, eo55, gb55, gl55, cl55, HG55⟩ := Kd.R_form HL183_0.out (by omega)
                   (first | cases eo55 | (injection eo55 with ea_ en_ ec_; (first | subst ea_ | (injection ea_ with ea_; subst ea_)); subst ec_; clear en_))
                   have GB55 := Aside0.mk gb55
                   have GG55 := Aside0.mk HG55
                   clear gb55 gl55 HG55
                   obtain ⟨hx55_0, hf55_0⟩ := Kd.R_celln false HL183_0.out (((rd_T39 l0_1 x17_1).f1) : Int) p55 q55
                   replace p55 := eq_true p55
                   replace q55 := eq_true q55
                   have hq75 : (((rd_T39 l0_1 x17_1).f0) : Int) < (y170.length : Int) := (by have h_ : (((rd_T39 l0_1 x17_1).f0) : Int) < ((x5_1.length : Int) : Int) := oD_; first | exact h_ | (have e_ := (Kd.S_reads' HO_5.out).1; omega) | simpa only [Ny166.out, Ny170.out, List.length_set] using h_)
                   obtain ⟨oki75, ce75, hcl75, hM75, hcc75, hok75, hbk75⟩ := Kd.S_borrow HO_5.out [] (((rd_T39 l0_1 x17_1).f0) : Int) (oD_) (by first | exact hq75 | exact oD_ | (have e_ := (Kd.S_reads' HO_5.out).1; omega))
                   obtain ⟨ve75_0, rfl, ge75_0⟩ := hM75
                   have hv75 := hcc75 0 _ rfl
                   rw [Nat.add_zero, show ((Kd.slice 4 Kd.bool)).sz = 1 from rfl, Nat.mul_one] at hv75
                   replace hv75 := Option.some.inj (hv75.symm.trans HX183_0.out)
                   subst hv75
                   clear hcc75 hcl75
                   replace ge75_0 := (show Kd.R Kd.bool 4 _ _ _ _ (rd_L4 y170 ((rd_T39 l0_1 x17_1).f0)) from ge75_0)
                   have HP75 := Kd.R_putg ge75_0 (((rd_T39 l0_1 x17_1).f1) : Int) true
                   rw [← Ny184.out] at HP75
                   have HS75 := hbk75 HP75.2 (fun k_ e_ => by injection e_ with e_; subst e_; exact ge75_0.1 _ rfl) (x' := y184) (Kd.M_row HP75.1)
                   rw [← Ny186.out] at HS75
                   have HQ75 := Aside0.mk HS75
                   clear HP75 HS75 hbk75 hok75
                   refine start_ (n := 9) (S := fun w' => w'.cell? ⟨gb162, 0, none⟩ = some (.int .i64 ((rd_T39 l0_1 x17_1).f0)) ∧ w'.cell? ⟨gb162, 1, none⟩ = some (.int .i64 ((rd_T39 l0_1 x17_1).f1)) ∧ w'.cell? (ad163.add (((rd_T39 l0_1 x17_1).f0)).toNat) = some (.slice (some ⟨go55, 0, none⟩) (rd_L4 y170 ((rd_T39 l0_1 x17_1).f0)).length c183_0)) (ds := [8]) #[fF,fF,fF,fF,fF,fF,fF,fF,fF] (by kernel_rfl) rfl rfl ⟨(qaa BK162.out 0).trans rfl, (qaa BK162.out 1).trans rfl, hx183_0⟩ (fun hHeld => ?_); refine with_tabW spec_ShortestRound.tab13 spec_ShortestRound.bits13 (fun HT_ HW_ => ?_)
                   generalize w72.drew = w74 at HO_5 HO173 BK156 BK162 HB GG55 HL183_0 HQ75 HR183_0 HX183_0 hf55_0 hx183_0 hx55_0 hHeld ⊢
                   refine qan (i := 0) (N := some 59) (v := ?_) (a' := ?_) #[tT,fF,fF,fF,fF,fF,fF,fF,fF] rfl rfl (aO_ HT_.out) (fun _ _ _ h => h) (.inl ⟨by rfl, ?_⟩) ?_ ?_
                   rotate_left
                   ·intro w'
                    go_simp
                    with_reducible rfl
                   rotate_left
                   ·simp only [Act.put, sP_, qai, qaj]
                    rfl
                   refine qan (i := 1) (N := some 60) (v := ?_) (a' := ?_) #[tT,tT,fF,fF,fF,fF,fF,fF,fF] rfl rfl (aO_ HT_.out) (fun _ _ _ h => h) (.inl ⟨by rfl, ?_⟩) ?_ ?_
                   rotate_left
                   ·intro w'
                    go_simp
                    with_reducible rfl
                   rotate_left
                   ·simp only [Act.put, sP_, qai, qaj]
                    rfl
                   refine qan (i := 5) (N := some 64) (v := ?_) (a' := ?_) #[tT,tT,fF,fF,fF,tT,fF,fF,fF] rfl rfl (aO_ HT_.out) (fun _ _ _ h => h) (.inl ⟨by rfl, ?_⟩) ?_ ?_
                   rotate_left
                   ·intro w'
                    go_simp
                    with_reducible rfl
                   rotate_left
                   ·simp only [Act.put, sP_, qai, qaj]
                    rfl
                   refine take_ (i := 2) (N := some 61) (v := ?_) (a' := ?_) #[tT,tT,tT,fF,fF,tT,fF,fF,fF] rfl rfl (qar HT_.out HW_.out (by kernel_rfl)) (fun _ _ _ h => h) (Or.inl ⟨by rfl, ?_⟩) hHeld ?_ ?_
                   rotate_left
                   ·rintro w' ⟨s0, s1, s2⟩
                    go_simp
                    with_reducible rfl
                   rotate_left
                   ·simp only [Act.put, sP_, qai, qaj]
                    rfl
                   refine qan (i := 3) (N := some 62) (v := ?_) (a' := ?_) #[tT,tT,tT,tT,fF,tT,fF,fF,fF] rfl rfl (aO_ HT_.out) (fun _ _ _ h => h) (.inl ⟨by rfl, ?_⟩) ?_ ?_
                   rotate_left
                   ·intro w'
                    go_simp
                    with_reducible rfl
                   rotate_left
                   ·simp only [Act.put, sP_, qai, qaj]
                    rfl
                   refine take_ (i := 4) (N := some 63) (v := ?_) (a' := ?_) #[tT,tT,tT,tT,tT,tT,fF,fF,fF] rfl rfl (qar HT_.out HW_.out (by kernel_rfl)) (fun _ _ _ h => h) (Or.inl ⟨by rfl, ?_⟩) hHeld ?_ ?_
                   rotate_left
                   ·rintro w' ⟨s0, s1, s2⟩
                    go_simp
                    with_reducible rfl
                   rotate_left
                   ·simp only [Act.put, sP_, qai, qaj]
                    rfl
                   refine take_ (i := 6) (N := some 65) (v := ?_) (a' := ?_) #[tT,tT,tT,tT,tT,tT,tT,fF,fF] rfl rfl (qar HT_.out HW_.out (by kernel_rfl)) (fun _ _ _ h => h) (Or.inl ⟨by rfl, ?_⟩) hHeld ?_ ?_
                   rotate_left
                   ·rintro w' ⟨s0, s1, s2⟩
                    go_simp
                    with_reducible rfl
                   rotate_left
                   ·simp only [Act.put, sP_, qai, qaj]
                    rfl
                   refine qan (i := 7) (N := some 66) (v := ?_) (a' := ?_) #[tT,tT,tT,tT,tT,tT,tT,tT,fF] rfl rfl (aO_ HT_.out) (fun _ _ _ h => h) (.inl ⟨by rfl, ?_⟩) ?_ ?_
                   rotate_left
                   ·intro w'
                    go_simp
                    with_reducible rfl
                   rotate_left
                   ·simp only [Act.put, sP_, qai, qaj]
                    rfl
                   refine last_ (i := 8) (N := none) #[tT,tT,tT,tT,tT,tT,tT,tT,tT] rfl rfl (one_of HT_.out (by kernel_rfl)) (by decide) (fun K hK => ?_)
                   refine skip_ (w1 := ?_) (by rfl) rfl ?_ ?_
                   rotate_left
                   ·go_simp
                    rfl
                   refine hK.out _ _ ?_
                   clear hK K
                   refine done_ (done_of HT_.out (by kernel_rfl)) ?_
                   try go_wp2
                   have n0_ : Aside0 (Kd.S (Kd.slice 4 Kd.bool) 40 (w74.setCell ⟨go55, (((rd_T39 l0_1 x17_1).f1) : Int).toNat, none⟩ (.bool true)) w.heap.size (fun _ => True) (.slice (some ad163) x5_1.length co63) y186) := ⟨by (with_reducible repeat (first | apply Kd.S_alloc | apply Kd.S_drewN | apply Kd.S_drew)); exact HQ75.out⟩
                   have n1_ : Aside0 (Kd.R (Kd.int .i64) 3 (w74.setCell ⟨go55, (((rd_T39 l0_1 x17_1).f1) : Int).toNat, none⟩ (.bool true)) w.heap.size (fun _ => True) (.slice (some ad174) t171.length co73) t171) := ⟨by (with_reducible repeat (first | apply Kd.R_alloc | apply Kd.R_drewN | apply Kd.R_drew)); exact Kd.R_mono (Kd.R_far (p := ⟨go55, (((rd_T39 l0_1 x17_1).f1) : Int).toNat, none⟩) (Kd.R_types HO173.out GG55.out (by decide)) (fun _ hk => hk.2) (.bool true)) (fun _ hk => trivial)⟩
                   have n2_ : Aside0 ((w74.setCell ⟨go55, (((rd_T39 l0_1 x17_1).f1) : Int).toNat, none⟩ (.bool true)).heap[gb156]? = some (.cells #[.int .i64 a0_0, .slice (some ad161) l0_1.length c0_1] 30 (0, 0))) := ⟨by (with_reducible repeat (first | refine qad ?_ _ | refine qab ?_ | refine qae ?_ _)); refine blk_far ?_ (by have h_ := Kd.R_ne HL183_0.out BK156.out (by decide); intro e_; exact h_ (by rw [e_]; rfl)) _; (with_reducible repeat (first | refine qad ?_ _ | refine qab ?_ | refine qae ?_ _)); exact BK156.out⟩
                   have n3_ : Aside0 ((w74.setCell ⟨go55, (((rd_T39 l0_1 x17_1).f1) : Int).toNat, none⟩ (.bool true)).heap[gb162]? = some (.cells #[.int .i64 ((rd_T39 l0_1 x17_1).f0), .int .i64 ((rd_T39 l0_1 x17_1).f1)] 39 (0, 0))) := ⟨by (with_reducible repeat (first | refine qad ?_ _ | refine qab ?_ | refine qae ?_ _)); refine blk_far ?_ (by have h_ := Kd.R_ne HL183_0.out BK162.out (by decide); intro e_; exact h_ (by rw [e_]; rfl)) _; (with_reducible repeat (first | refine qad ?_ _ | refine qab ?_ | refine qae ?_ _)); exact BK162.out⟩
                   have n4_ : Aside0 (Below w.heap.size w (w74.setCell ⟨go55, (((rd_T39 l0_1 x17_1).f1) : Int).toNat, none⟩ (.bool true))) := ⟨by repeat (first | (with_reducible first | exact HB.out | apply qal | apply qac | apply qaf | refine qag ?_ GB55.out | refine qag ?_ GE156.out | refine qag ?_ GE162.out) | exact HB.out)⟩
                   (try clear HO_5)
                   (try clear HO173)
                   (try clear BK156)
                   (try clear BK162)
                   (try clear HB)
                   generalize (w74.setCell ⟨go55, (((rd_T39 l0_1 x17_1).f1) : Int).toNat, none⟩ (.bool true)) = w77 at n0_ n1_ n2_ n3_ n4_ ⊢
                   have HO_5 := n0_
                   have HO173 := n1_
                   have BK156 := n2_
                   have BK162 := n3_
                   have HB := n4_
                   clear n0_ n1_ n2_ n3_ n4_
                   have n0_ := Aside0.mk (Kd.S_drew HO_5.out)
                   have n1_ := Aside0.mk (Kd.R_drew HO173.out)
                   have n2_ := Aside0.mk (qab BK156.out)
                   have n3_ := Aside0.mk (qab BK162.out)
                   have n4_ := Aside0.mk (qaf HB.out)
                   clear HO_5
                   clear HO173
                   clear BK156
                   clear BK162
                   clear HB
                   have HO_5 := n0_
                   have HO173 := n1_
                   have BK156 := n2_
                   have BK162 := n3_
                   have HB := n4_
                   clear n0_ n1_ n2_ n3_ n4_
                   have p187 : 0 ≤ (((rd_T39 l0_1 x17_1).f1) : Int) := oD_
                   have q187 : ((rd_T39 l0_1 x17_1).f1) < (y186.length : Int) := (by have h_ : (((rd_T39 l0_1 x17_1).f1) : Int) < ((x5_1.length : Int) : Int) := oD_; first | (have e_ := (Kd.S_reads' HO_5.out).1; omega) | simpa only [Ny166.out, Ny170.out, Ny186.out, List.length_set] using h_)
                   have ql187 : ((((rd_T39 l0_1 x17_1).f1) : Int) < ((x5_1.length : Int) : Int)) = True := eq_true (oD_)
                   obtain ⟨ad187, A187_0, c187_0, e187, hx187_0, hl187_0, hi187_0⟩ := at_L4 (Kd.S_reads' HO_5.out).2.2 ((rd_T39 l0_1 x17_1).f1) p187 q187
                   obtain rfl : ad163 = ad187 := (by injection e187)
                   obtain ⟨ce187, hce187, hMe187, hcc187⟩ := Kd.S_get HO_5.out [] ((rd_T39 l0_1 x17_1).f1) p187 (by first | exact q187 | exact oD_ | (have e_ := (Kd.S_reads' HO_5.out).1; omega))
                   obtain ⟨ve187_0, rfl, ge187_0⟩ := hMe187
                   have hv187_0 := hcc187 0 _ rfl
                   rw [Nat.add_zero, show ((Kd.slice 4 Kd.bool)).sz = 1 from rfl, Nat.mul_one] at hv187_0
                   replace hv187_0 := Option.some.inj (hv187_0.symm.trans hx187_0)
                   rw [hv187_0] at ge187_0
                   have HL187_0 := Aside0.mk (show Kd.R Kd.bool 4 _ _ _ _ (rd_L4 y186 ((rd_T39 l0_1 x17_1).f1)) from ge187_0)
                   clear hv187_0 ge187_0
                   have HX187_0 := Aside0.mk hx187_0
                   clear hcc187 hce187
                   have HR187_0 := Aside0.mk hi187_0
                   have HC187_0 := Aside0.mk hl187_0
                   clear hi187_0 hl187_0
                   replace p187 := eq_true p187
                   replace q187 := eq_true q187
                   have p57 : 0 ≤ (((rd_T39 l0_1 x17_1).f0) : Int) := oD_
                   have q57 : (((rd_T39 l0_1 x17_1).f0) : Int) < (((rd_L4 y186 ((rd_T39 l0_1 x17_1).f1)).length : Int) : Int) := oD_
                   obtain ⟨go57, co57, eo57, gb57, gl57, cl57, HG57⟩ := Kd.R_form HL187_0.out (by omega)
                   (first | cases eo57 | (injection eo57 with ea_ en_ ec_; (first | subst ea_ | (injection ea_ with ea_; subst ea_)); subst ec_; clear en_))
                   have GB57 := Aside0.mk gb57
                   have GG57 := Aside0.mk HG57
                   clear gb57 gl57 HG57
                   obtain ⟨hx57_0, hf57_0⟩ := Kd.R_celln false HL187_0.out (((rd_T39 l0_1 x17_1).f0) : Int) p57 q57
                   replace p57 := eq_true p57
                   replace q57 := eq_true q57
                   have hq79 : (((rd_T39 l0_1 x17_1).f1) : Int) < (y186.length : Int) := (by have h_ : (((rd_T39 l0_1 x17_1).f1) : Int) < ((x5_1.length : Int) : Int) := oD_; first | exact h_ | (have e_ := (Kd.S_reads' HO_5.out).1; omega) | simpa only [Ny166.out, Ny170.out, Ny186.out, List.length_set] using h_)
                   obtain ⟨oki79, ce79, hcl79, hM79, hcc79, hok79, hbk79⟩ := Kd.S_borrow HO_5.out [] (((rd_T39 l0_1 x17_1).f1) : Int) (oD_) (by first | exact hq79 | exact oD_ | (have e_ := (Kd.S_reads' HO_5.out).1; omega))
                   obtain ⟨ve79_0, rfl, ge79_0⟩ := hM79
                   have hv79 := hcc79 0 _ rfl
                   rw [Nat.add_zero, show ((Kd.slice 4 Kd.bool)).sz = 1 from rfl, Nat.mul_one] at hv79
                   replace hv79 := Option.some.inj (hv79.symm.trans HX187_0.out)
                   subst hv79
                   clear hcc79 hcl79
                   replace ge79_0 := (show Kd.R Kd.bool 4 _ _ _ _ (rd_L4 y186 ((rd_T39 l0_1 x17_1).f1)) from ge79_0)
                   have HP79 := Kd.R_putg ge79_0 (((rd_T39 l0_1 x17_1).f0) : Int) true
                   rw [← Ny188.out] at HP79
                   have HS79 := hbk79 HP79.2 (fun k_ e_ => by injection e_ with e_; subst e_; exact ge79_0.1 _ rfl) (x' := y188) (Kd.M_row HP79.1)
                   rw [← Ny190.out] at HS79
                   have HQ79 := Aside0.mk HS79
                   clear HP79 HS79 hbk79 hok79
                   refine start_ (n := 9) (S := fun w' => w'.cell? ⟨gb162, 0, none⟩ = some (.int .i64 ((rd_T39 l0_1 x17_1).f0)) ∧ w'.cell? ⟨gb162, 1, none⟩ = some (.int .i64 ((rd_T39 l0_1 x17_1).f1)) ∧ w'.cell? (ad163.add (((rd_T39 l0_1 x17_1).f1)).toNat) = some (.slice (some ⟨go57, 0, none⟩) (rd_L4 y186 ((rd_T39 l0_1 x17_1).f1)).length c187_0)) (ds := [8]) #[fF,fF,fF,fF,fF,fF,fF,fF,fF] (by kernel_rfl) rfl rfl ⟨(qaa BK162.out 0).trans rfl, (qaa BK162.out 1).trans rfl, hx187_0⟩ (fun hHeld => ?_); refine with_tabW spec_ShortestRound.tab14 spec_ShortestRound.bits14 (fun HT_ HW_ => ?_)
                   generalize w77.drew = w78 at HO_5 HO173 BK156 BK162 HB GG57 HL187_0 HQ75 HQ79 HR187_0 HX187_0 hf57_0 hx187_0 hx57_0 hHeld ⊢
                   refine qan (i := 0) (N := some 67) (v := ?_) (a' := ?_) #[tT,fF,fF,fF,fF,fF,fF,fF,fF] rfl rfl (aO_ HT_.out) (fun _ _ _ h => h) (.inl ⟨by rfl, ?_⟩) ?_ ?_
                   rotate_left
                   ·intro w'
                    go_simp
                    with_reducible rfl
                   rotate_left
                   ·simp only [Act.put, sP_, qai, qaj]
                    rfl
                   refine qan (i := 1) (N := some 68) (v := ?_) (a' := ?_) #[tT,tT,fF,fF,fF,fF,fF,fF,fF] rfl rfl (aO_ HT_.out) (fun _ _ _ h => h) (.inl ⟨by rfl, ?_⟩) ?_ ?_
                   rotate_left
                   ·intro w'
                    go_simp
                    with_reducible rfl
                   rotate_left
                   ·simp only [Act.put, sP_, qai, qaj]
                    rfl
                   refine qan (i := 5) (N := some 72) (v := ?_) (a' := ?_) #[tT,tT,fF,fF,fF,tT,fF,fF,fF] rfl rfl (aO_ HT_.out) (fun _ _ _ h => h) (.inl ⟨by rfl, ?_⟩) ?_ ?_
                   rotate_left
                   ·intro w'
                    go_simp
                    with_reducible rfl
                   rotate_left
                   ·simp only [Act.put, sP_, qai, qaj]
                    rfl
                   refine take_ (i := 2) (N := some 69) (v := ?_) (a' := ?_) #[tT,tT,tT,fF,fF,tT,fF,fF,fF] rfl rfl (qar HT_.out HW_.out (by kernel_rfl)) (fun _ _ _ h => h) (Or.inl ⟨by rfl, ?_⟩) hHeld ?_ ?_
                   rotate_left
                   ·rintro w' ⟨s0, s1, s2⟩
                    go_simp
                    with_reducible rfl
                   rotate_left
                   ·simp only [Act.put, sP_, qai, qaj]
                    rfl
                   refine qan (i := 3) (N := some 70) (v := ?_) (a' := ?_) #[tT,tT,tT,tT,fF,tT,fF,fF,fF] rfl rfl (aO_ HT_.out) (fun _ _ _ h => h) (.inl ⟨by rfl, ?_⟩) ?_ ?_
                   rotate_left
                   ·intro w'
                    go_simp
                    with_reducible rfl
                   rotate_left
                   ·simp only [Act.put, sP_, qai, qaj]
                    rfl
                   refine take_ (i := 4) (N := some 71) (v := ?_) (a' := ?_) #[tT,tT,tT,tT,tT,tT,fF,fF,fF] rfl rfl (qar HT_.out HW_.out (by kernel_rfl)) (fun _ _ _ h => h) (Or.inl ⟨by rfl, ?_⟩) hHeld ?_ ?_
                   rotate_left
                   ·rintro w' ⟨s0, s1, s2⟩
                    go_simp
                    with_reducible rfl
                   rotate_left
                   ·simp only [Act.put, sP_, qai, qaj]
                    rfl
                   refine take_ (i := 6) (N := some 73) (v := ?_) (a' := ?_) #[tT,tT,tT,tT,tT,tT,tT,fF,fF] rfl rfl (qar HT_.out HW_.out (by kernel_rfl)) (fun _ _ _ h => h) (Or.inl ⟨by rfl, ?_⟩) hHeld ?_ ?_
                   rotate_left
                   ·rintro w' ⟨s0, s1, s2⟩
                    go_simp
                    with_reducible rfl
                   rotate_left
                   ·simp only [Act.put, sP_, qai, qaj]
                    rfl
                   refine qan (i := 7) (N := some 74) (v := ?_) (a' := ?_) #[tT,tT,tT,tT,tT,tT,tT,tT,fF] rfl rfl (aO_ HT_.out) (fun _ _ _ h => h) (.inl ⟨by rfl, ?_⟩) ?_ ?_
                   rotate_left
                   ·intro w'
                    go_simp
                    with_reducible rfl
                   rotate_left
                   ·simp only [Act.put, sP_, qai, qaj]
                    rfl
                   refine last_ (i := 8) (N := none) #[tT,tT,tT,tT,tT,tT,tT,tT,tT] rfl rfl (one_of HT_.out (by kernel_rfl)) (by decide) (fun K hK => ?_)
                   refine skip_ (w1 := ?_) (by rfl) rfl ?_ ?_
                   rotate_left
                   ·go_simp
                    rfl
                   refine hK.out _ _ ?_
                   clear hK K
                   refine done_ (done_of HT_.out (by kernel_rfl)) ?_
                   try go_wp2
                   go_roundg k1
                   case measure => have := HK1.out; omega
                   case rel => exact ⟨(wrap64 ((rd t171 ((rd_T39 l0_1 x17_1).f1)) + 1)), (y190), (wrap64 (x17_1 + 1)), rS_, rS_, H', ⟨by have := HK1.out; omega⟩, ⟨by (with_reducible repeat (first | apply Kd.S_alloc | apply Kd.S_drewN | apply Kd.S_drew)); exact HQ79.out⟩, ⟨by (with_reducible repeat (first | refine qad ?_ _ | refine qab ?_ | refine qae ?_ _)); refine blk_far ?_ (by have h_ := Kd.R_ne HL187_0.out BK156.out (by decide); intro e_; exact h_ (by rw [e_]; rfl)) _; (with_reducible repeat (first | refine qad ?_ _ | refine qab ?_ | refine qae ?_ _)); exact BK156.out⟩, ⟨by repeat (first | (with_reducible first | exact HB.out | apply qal | apply qac | apply qaf | refine qag ?_ GB57.out | refine qag ?_ GE156.out | refine qag ?_ GE162.out) | exact HB.out)⟩⟩
                  ·rw [if_neg c56] at H
                   exact absurd H (by simp)
                 ·rw [if_neg c54] at H
                  exact absurd H (by simp)
                ·rw [if_neg c53] at H
                 have c53b0 : decide ((wrap64 ((rd t171 ((rd_T39 l0_1 x17_1).f1)) + 1)) < x4_1) = false := decide_eq_false c53
                 (try (have c53b0_w : decide ((IntKind.i64.wrap ((rd t171 ((rd_T39 l0_1 x17_1).f1)) + 1)) < x4_1) = false := (by simp only [qai]; exact c53b0)))
                 clear c53
                 by_cases c81 : ((rd_T39 l0_1 x17_1).f1) < ((rd_L4 y170 ((rd_T39 l0_1 x17_1).f0)).length : Int)
                 ·rw [if_pos c81] at H
                  have c81b0 : decide (((rd_T39 l0_1 x17_1).f1) < ((rd_L4 y170 ((rd_T39 l0_1 x17_1).f0)).length : Int)) = true := decide_eq_true c81
                  clear c81
                  obtain ⟨y192, hy192⟩ : ∃ y_ : List Bool, y_ = ((rd_L4 y170 ((rd_T39 l0_1 x17_1).f0)).set (((rd_T39 l0_1 x17_1).f1) : Int).toNat true) := ⟨_, rfl⟩
                  replace H : ((some (y170.set (((rd_T39 l0_1 x17_1).f0) : Int).toNat y192 : List (List Bool))).bind fun y194 => (if ((rd_T39 l0_1 x17_1).f0) < ((rd_L4 y194 ((rd_T39 l0_1 x17_1).f1)).length : Int) then (spec_ShortestRound.l0 k1 x4_1 (y194.set (((rd_T39 l0_1 x17_1).f1) : Int).toNat ((rd_L4 y194 ((rd_T39 l0_1 x17_1).f1)).set (((rd_T39 l0_1 x17_1).f0) : Int).toNat true)) l0_1 (l0_1.length : Int) (wrap64 (x17_1 + 1))) else (none))) = some (r1, r2) := by first | (rw [hy192]; with_reducible exact H) | (have H2_ := (Option.bind_some _ _).symm.trans H; rw [hy192]; with_reducible exact H2_) | (have H2_ := (Option.bind_some _ _).symm.trans H; with_reducible exact H2_) | with_reducible exact H | (rw [hy192]; exact H) | exact H
                  have Ny192 := Aside0.mk hy192
                  clear hy192
                  obtain ⟨y194, hy194⟩ : ∃ y_ : List (List Bool), y_ = (y170.set (((rd_T39 l0_1 x17_1).f0) : Int).toNat y192) := ⟨_, rfl⟩
                  replace H : (if ((rd_T39 l0_1 x17_1).f0) < ((rd_L4 y194 ((rd_T39 l0_1 x17_1).f1)).length : Int) then (spec_ShortestRound.l0 k1 x4_1 (y194.set (((rd_T39 l0_1 x17_1).f1) : Int).toNat ((rd_L4 y194 ((rd_T39 l0_1 x17_1).f1)).set (((rd_T39 l0_1 x17_1).f0) : Int).toNat true)) l0_1 (l0_1.length : Int) (wrap64 (x17_1 + 1))) else (none)) = some (r1, r2) := by first | (rw [hy194]; with_reducible exact H) | (have H2_ := (Option.bind_some _ _).symm.trans H; rw [hy194]; with_reducible exact H2_) | (have H2_ := (Option.bind_some _ _).symm.trans H; with_reducible exact H2_) | with_reducible exact H | (rw [hy194]; exact H) | exact H
                  have Ny194 := Aside0.mk hy194
                  clear hy194
                  by_cases c83 : ((rd_T39 l0_1 x17_1).f0) < ((rd_L4 y194 ((rd_T39 l0_1 x17_1).f1)).length : Int)
                  ·rw [if_pos c83] at H
                   have c83b0 : decide (((rd_T39 l0_1 x17_1).f0) < ((rd_L4 y194 ((rd_T39 l0_1 x17_1).f1)).length : Int)) = true := decide_eq_true c83
                   clear c83
                   obtain ⟨y196, hy196⟩ : ∃ y_ : List Bool, y_ = ((rd_L4 y194 ((rd_T39 l0_1 x17_1).f1)).set (((rd_T39 l0_1 x17_1).f0) : Int).toNat true) := ⟨_, rfl⟩
                   replace H : (spec_ShortestRound.l0 k1 x4_1 (y194.set (((rd_T39 l0_1 x17_1).f1) : Int).toNat y196) l0_1 (l0_1.length : Int) (wrap64 (x17_1 + 1))) = some (r1, r2) := by first | (rw [hy196]; with_reducible exact H) | (have H2_ := (Option.bind_some _ _).symm.trans H; rw [hy196]; with_reducible exact H2_) | (have H2_ := (Option.bind_some _ _).symm.trans H; with_reducible exact H2_) | with_reducible exact H | (rw [hy196]; exact H) | exact H
                   have Ny196 := Aside0.mk hy196
                   clear hy196
                   obtain ⟨y198, hy198⟩ : ∃ y_ : List (List Bool), y_ = (y194.set (((rd_T39 l0_1 x17_1).f1) : Int).toNat y196) := ⟨_, rfl⟩
                   replace H : (spec_ShortestRound.l0 k1 x4_1 y198 l0_1 (l0_1.length : Int) (wrap64 (x17_1 + 1))) = some (r1, r2) := by first | (rw [hy198]; with_reducible exact H) | (have H2_ := (Option.bind_some _ _).symm.trans H; rw [hy198]; with_reducible exact H2_) | (have H2_ := (Option.bind_some _ _).symm.trans H; with_reducible exact H2_) | with_reducible exact H | (rw [hy198]; exact H) | exact H
                   have Ny198 := Aside0.mk hy198
                   clear hy198
                   have H' := Aside0.mk H
                   clear H
                   have p161 : 0 ≤ (x17_1 : Int) := oD_
                   have q161 : x17_1 < (l0_1.length : Int) := oD_
                   obtain ⟨ad161, e161, hx161_0, hx161_1⟩ := at_T39 HR0_1.out x17_1 p161 q161
                   cases e161
                   (try (replace hx161_0 := (HB.out.cell (World.block_lt_of_cell? w _ hx161_0)).trans hx161_0))
                   (try (replace hx161_1 := (HB.out.cell (World.block_lt_of_cell? w _ hx161_1)).trans hx161_1))
                   replace p161 := eq_true p161
                   replace q161 := eq_true q161
                   try go_wp2_with (first | ((with_reducible refine gate_dst (N := 7) rfl ?_); refine box_event ?hg (N := 7) ?hd (cs := #[.int .i64 0, .int .i64 0]) (t := 39) ?hr ?_; (case hd => rfl); (case hg => rfl); (case hr => first | (go_simp; done) | (go_simp; rfl)); intro gb162 hg w85 hbox hb; have n0_ := Aside0.mk (Kd.S_below (uS_ HO_5.out) hb); have n1_ := Aside0.mk (qaq (g := gb156) (o := .cells #[.int .i64 a0_0, .slice (some ad161) l0_1.length c0_1] 30 (0, 0)) (uB_ BK156.out) hb); have n2_ := Aside0.mk (qao (hB1_ GE156.out) hb); have n3_ := Aside0.mk (hbox); have n4_ := Aside0.mk ((by rw [hg]; exact (qap (hB1_ GE156.out)) : w.heap.size ≤ gb162)); have n5_ := n4_; have n6_ := Aside0.mk ((by rw [hg]; exact Nat.ne_of_lt (blk_lt (g := gb156) (o := .cells #[.int .i64 a0_0, .slice (some ad161) l0_1.length c0_1] 30 (0, 0)) (uB_ BK156.out)) : gb156 ≠ gb162)); have n7_ := Aside0.mk n6_.out.symm; clear HO_5; clear BK156; clear HB; have HO_5 := n0_; have BK156 := n1_; have HB := n2_; have BK162 := n3_; have GW162 := n4_; have GE162 := n5_; have NB156_162 := n6_; have NB162_156 := n7_; clear n0_ n1_ n2_ n3_ n4_ n5_ n6_ n7_; clear hb hbox hg; have hnb86 := NB162_156.out; have hnc86 := NB156_162.out; have hcz87_0 : w85.cell? ⟨gb162, 0, none⟩ = some (.int .i64 0) := (qaa BK162.out 0).trans rfl; have hcz87_1 : w85.cell? ⟨gb162, 1, none⟩ = some (.int .i64 0) := (qaa BK162.out 1).trans rfl; have hfz87_0 := qam BK162.out 0; have hfz87_1 := qam BK162.out 1))
                   have n0_ : Aside0 (Kd.S (Kd.slice 4 Kd.bool) 40 ((w85.setCell ⟨gb162, 0, none⟩ (.int .i64 ((rd_T39 l0_1 x17_1).f0))).setCell ⟨gb162, 1, none⟩ (.int .i64 ((rd_T39 l0_1 x17_1).f1))) w.heap.size (fun _ => True) v159 x5_1) := ⟨by (with_reducible repeat (first | apply Kd.S_alloc | apply Kd.S_drewN | apply Kd.S_drew)); exact Kd.S_mono (Kd.S_far (p := ⟨gb162, 1, none⟩) (Kd.S_far (p := ⟨gb162, 0, none⟩) (Kd.S_types HO_5.out BK162.out (by decide)) (fun _ hk => hk.2) (.int .i64 ((rd_T39 l0_1 x17_1).f0))) (fun _ hk => hk.2) (.int .i64 ((rd_T39 l0_1 x17_1).f1))) (fun _ hk => trivial)⟩
                   have n1_ : Aside0 (((w85.setCell ⟨gb162, 0, none⟩ (.int .i64 ((rd_T39 l0_1 x17_1).f0))).setCell ⟨gb162, 1, none⟩ (.int .i64 ((rd_T39 l0_1 x17_1).f1))).heap[gb156]? = some (.cells #[.int .i64 a0_0, .slice (some ad161) l0_1.length c0_1] 30 (0, 0))) := ⟨by (with_reducible repeat (first | refine qad ?_ _ | refine qab ?_ | refine qae ?_ _)); refine blk_far ?_ NB156_162.out _; (with_reducible repeat (first | refine qad ?_ _ | refine qab ?_ | refine qae ?_ _)); refine blk_far ?_ NB156_162.out _; (with_reducible repeat (first | refine qad ?_ _ | refine qab ?_ | refine qae ?_ _)); exact BK156.out⟩
                   have n2_ : Aside0 (((w85.setCell ⟨gb162, 0, none⟩ (.int .i64 ((rd_T39 l0_1 x17_1).f0))).setCell ⟨gb162, 1, none⟩ (.int .i64 ((rd_T39 l0_1 x17_1).f1))).heap[gb162]? = some (.cells #[.int .i64 ((rd_T39 l0_1 x17_1).f0), .int .i64 ((rd_T39 l0_1 x17_1).f1)] 39 (0, 0))) := ⟨by (with_reducible repeat (first | refine qad ?_ _ | refine qab ?_ | refine qae ?_ _)); refine blk_put (cs := #[.int .i64 ((rd_T39 l0_1 x17_1).f0), .int .i64 0]) ?_ 1 _ rfl; (with_reducible repeat (first | refine qad ?_ _ | refine qab ?_ | refine qae ?_ _)); refine blk_put (cs := #[.int .i64 0, .int .i64 0]) ?_ 0 _ rfl; (with_reducible repeat (first | refine qad ?_ _ | refine qab ?_ | refine qae ?_ _)); exact BK162.out⟩
                   have n3_ : Aside0 (Below w.heap.size w ((w85.setCell ⟨gb162, 0, none⟩ (.int .i64 ((rd_T39 l0_1 x17_1).f0))).setCell ⟨gb162, 1, none⟩ (.int .i64 ((rd_T39 l0_1 x17_1).f1)))) := ⟨by repeat (first | (with_reducible first | exact HB.out | apply qal | apply qac | apply qaf | refine qag ?_ GE156.out | refine qag ?_ GE162.out) | exact HB.out)⟩
                   (try clear HO_5)
                   (try clear BK156)
                   (try clear BK162)
                   (try clear HB)
                   generalize ((w85.setCell ⟨gb162, 0, none⟩ (.int .i64 ((rd_T39 l0_1 x17_1).f0))).setCell ⟨gb162, 1, none⟩ (.int .i64 ((rd_T39 l0_1 x17_1).f1))) = w88 at n0_ n1_ n2_ n3_ ⊢
                   have HO_5 := n0_
                   have BK156 := n1_
                   have BK162 := n2_
                   have HB := n3_
                   clear n0_ n1_ n2_ n3_
                   have n0_ := Aside0.mk (Kd.S_drew HO_5.out)
                   have n1_ := Aside0.mk (qab BK156.out)
                   have n2_ := Aside0.mk (qab BK162.out)
                   have n3_ := Aside0.mk (qaf HB.out)
                   clear HO_5
                   clear BK156
                   clear BK162
                   clear HB
                   have HO_5 := n0_
                   have BK156 := n1_
                   have BK162 := n2_
                   have HB := n3_
                   clear n0_ n1_ n2_ n3_
                   obtain ⟨Ao90, co90, eo90⟩ := Kd.S_slice HO_5.out
                   (first | subst eo90 | (injection eo90 with f1_ f2_ f3_; have f4_ := f1_.symm; have f5_ := f3_.symm; clear f1_ f2_ f3_; subst f4_; subst f5_))
                   have p163 : 0 ≤ (((rd_T39 l0_1 x17_1).f0) : Int) := oD_
                   have q163 : ((rd_T39 l0_1 x17_1).f0) < (x5_1.length : Int) := oD_
                   obtain ⟨ad163, A163_0, c163_0, e163, hx163_0, hl163_0, hi163_0⟩ := at_L4 (Kd.S_reads' HO_5.out).2.2 ((rd_T39 l0_1 x17_1).f0) p163 q163
                   cases e163
                   obtain ⟨ce163, hce163, hMe163, hcc163⟩ := Kd.S_get HO_5.out [] ((rd_T39 l0_1 x17_1).f0) p163 (by first | exact q163 | exact oD_ | (have e_ := (Kd.S_reads' HO_5.out).1; omega))
                   obtain ⟨ve163_0, rfl, ge163_0⟩ := hMe163
                   have hv163_0 := hcc163 0 _ rfl
                   rw [Nat.add_zero, show ((Kd.slice 4 Kd.bool)).sz = 1 from rfl, Nat.mul_one] at hv163_0
                   replace hv163_0 := Option.some.inj (hv163_0.symm.trans hx163_0)
                   rw [hv163_0] at ge163_0
                   have HL163_0 := Aside0.mk (show Kd.R Kd.bool 4 _ _ _ _ (rd_L4 x5_1 ((rd_T39 l0_1 x17_1).f0)) from ge163_0)
                   clear hv163_0 ge163_0
                   have HX163_0 := Aside0.mk hx163_0
                   clear hcc163 hce163
                   have HR163_0 := Aside0.mk hi163_0
                   have HC163_0 := Aside0.mk hl163_0
                   clear hi163_0 hl163_0
                   replace p163 := eq_true p163
                   replace q163 := eq_true q163
                   have p18 : 0 ≤ (((rd_T39 l0_1 x17_1).f1) : Int) := oD_
                   have q18 : (((rd_T39 l0_1 x17_1).f1) : Int) < (((rd_L4 x5_1 ((rd_T39 l0_1 x17_1).f0)).length : Int) : Int) := oD_
                   obtain ⟨go18, co18, eo18, gb18, gl18, cl18, HG18⟩ := Kd.R_form HL163_0.out (by omega)
                   (first | cases eo18 | (injection eo18 with ea_ en_ ec_; (first | subst ea_ | (injection ea_ with ea_; subst ea_)); subst ec_; clear en_))
                   have GB18 := Aside0.mk gb18
                   have GG18 := Aside0.mk HG18
                   clear gb18 gl18 HG18
                   obtain ⟨hx18_0, hf18_0⟩ := Kd.R_celln false HL163_0.out (((rd_T39 l0_1 x17_1).f1) : Int) p18 q18
                   replace p18 := eq_true p18
                   replace q18 := eq_true q18
                   have hq91 : (((rd_T39 l0_1 x17_1).f0) : Int) < (x5_1.length : Int) := (by have h_ : (((rd_T39 l0_1 x17_1).f0) : Int) < ((x5_1.length : Int) : Int) := oD_; first | exact h_ | (have e_ := (Kd.S_reads' HO_5.out).1; omega) | simpa only [List.length_set, List.length_set] using h_)
                   obtain ⟨oki91, ce91, hcl91, hM91, hcc91, hok91, hbk91⟩ := Kd.S_borrow HO_5.out [] (((rd_T39 l0_1 x17_1).f0) : Int) (oD_) (by first | exact hq91 | exact oD_ | (have e_ := (Kd.S_reads' HO_5.out).1; omega))
                   obtain ⟨ve91_0, rfl, ge91_0⟩ := hM91
                   have hv91 := hcc91 0 _ rfl
                   rw [Nat.add_zero, show ((Kd.slice 4 Kd.bool)).sz = 1 from rfl, Nat.mul_one] at hv91
                   replace hv91 := Option.some.inj (hv91.symm.trans HX163_0.out)
                   subst hv91
                   clear hcc91 hcl91
                   replace ge91_0 := (show Kd.R Kd.bool 4 _ _ _ _ (rd_L4 x5_1 ((rd_T39 l0_1 x17_1).f0)) from ge91_0)
                   have HP91 := Kd.R_putg ge91_0 (((rd_T39 l0_1 x17_1).f1) : Int) false
                   rw [← Ny164.out] at HP91
                   have HS91 := hbk91 HP91.2 (fun k_ e_ => by injection e_ with e_; subst e_; exact ge91_0.1 _ rfl) (x' := y164) (Kd.M_row HP91.1)
                   rw [← Ny166.out] at HS91
                   have HQ91 := Aside0.mk HS91
                   clear HP91 HS91 hbk91 hok91
                   refine start_ (n := 9) (S := fun w' => w'.cell? ⟨gb162, 0, none⟩ = some (.int .i64 ((rd_T39 l0_1 x17_1).f0)) ∧ w'.cell? ⟨gb162, 1, none⟩ = some (.int .i64 ((rd_T39 l0_1 x17_1).f1)) ∧ w'.cell? (ad163.add (((rd_T39 l0_1 x17_1).f0)).toNat) = some (.slice (some ⟨go18, 0, none⟩) (rd_L4 x5_1 ((rd_T39 l0_1 x17_1).f0)).length c163_0)) (ds := [8]) #[fF,fF,fF,fF,fF,fF,fF,fF,fF] (by kernel_rfl) rfl rfl ⟨(qaa BK162.out 0).trans rfl, (qaa BK162.out 1).trans rfl, hx163_0⟩ (fun hHeld => ?_); refine with_tabW spec_ShortestRound.tab8 spec_ShortestRound.bits8 (fun HT_ HW_ => ?_)
                   generalize w88.drew = w89 at HO_5 BK156 BK162 HB GG18 HL163_0 HQ91 HR163_0 HX163_0 hf18_0 hx163_0 hx18_0 hHeld ⊢
                   refine qan (i := 0) (N := some 21) (v := ?_) (a' := ?_) #[tT,fF,fF,fF,fF,fF,fF,fF,fF] rfl rfl (aO_ HT_.out) (fun _ _ _ h => h) (.inl ⟨by rfl, ?_⟩) ?_ ?_
                   rotate_left
                   ·intro w'
                    go_simp
                    with_reducible rfl
                   rotate_left
                   ·simp only [Act.put, sP_, qai, qaj]
                    rfl
                   refine qan (i := 1) (N := some 22) (v := ?_) (a' := ?_) #[tT,tT,fF,fF,fF,fF,fF,fF,fF] rfl rfl (aO_ HT_.out) (fun _ _ _ h => h) (.inl ⟨by rfl, ?_⟩) ?_ ?_
                   rotate_left
                   ·intro w'
                    go_simp
                    with_reducible rfl
                   rotate_left
                   ·simp only [Act.put, sP_, qai, qaj]
                    rfl
                   refine qan (i := 5) (N := some 26) (v := ?_) (a' := ?_) #[tT,tT,fF,fF,fF,tT,fF,fF,fF] rfl rfl (aO_ HT_.out) (fun _ _ _ h => h) (.inl ⟨by rfl, ?_⟩) ?_ ?_
                   rotate_left
                   ·intro w'
                    go_simp
                    with_reducible rfl
                   rotate_left
                   ·simp only [Act.put, sP_, qai, qaj]
                    rfl
                   refine take_ (i := 2) (N := some 23) (v := ?_) (a' := ?_) #[tT,tT,tT,fF,fF,tT,fF,fF,fF] rfl rfl (qar HT_.out HW_.out (by kernel_rfl)) (fun _ _ _ h => h) (Or.inl ⟨by rfl, ?_⟩) hHeld ?_ ?_
                   rotate_left
                   ·rintro w' ⟨s0, s1, s2⟩
                    go_simp
                    with_reducible rfl
                   rotate_left
                   ·simp only [Act.put, sP_, qai, qaj]
                    rfl
                   refine qan (i := 3) (N := some 24) (v := ?_) (a' := ?_) #[tT,tT,tT,tT,fF,tT,fF,fF,fF] rfl rfl (aO_ HT_.out) (fun _ _ _ h => h) (.inl ⟨by rfl, ?_⟩) ?_ ?_
                   rotate_left
                   ·intro w'
                    go_simp
                    with_reducible rfl
                   rotate_left
                   ·simp only [Act.put, sP_, qai, qaj]
                    rfl
                   refine take_ (i := 4) (N := some 25) (v := ?_) (a' := ?_) #[tT,tT,tT,tT,tT,tT,fF,fF,fF] rfl rfl (qar HT_.out HW_.out (by kernel_rfl)) (fun _ _ _ h => h) (Or.inl ⟨by rfl, ?_⟩) hHeld ?_ ?_
                   rotate_left
                   ·rintro w' ⟨s0, s1, s2⟩
                    go_simp
                    with_reducible rfl
                   rotate_left
                   ·simp only [Act.put, sP_, qai, qaj]
                    rfl
                   refine take_ (i := 6) (N := some 27) (v := ?_) (a' := ?_) #[tT,tT,tT,tT,tT,tT,tT,fF,fF] rfl rfl (qar HT_.out HW_.out (by kernel_rfl)) (fun _ _ _ h => h) (Or.inl ⟨by rfl, ?_⟩) hHeld ?_ ?_
                   rotate_left
                   ·rintro w' ⟨s0, s1, s2⟩
                    go_simp
                    with_reducible rfl
                   rotate_left
                   ·simp only [Act.put, sP_, qai, qaj]
                    rfl
                   refine qan (i := 7) (N := some 28) (v := ?_) (a' := ?_) #[tT,tT,tT,tT,tT,tT,tT,tT,fF] rfl rfl (aO_ HT_.out) (fun _ _ _ h => h) (.inl ⟨by rfl, ?_⟩) ?_ ?_
                   rotate_left
                   ·intro w'
                    go_simp
                    with_reducible rfl
                   rotate_left
                   ·simp only [Act.put, sP_, qai, qaj]
                    rfl
                   refine last_ (i := 8) (N := none) #[tT,tT,tT,tT,tT,tT,tT,tT,tT] rfl rfl (one_of HT_.out (by kernel_rfl)) (by decide) (fun K hK => ?_)
                   refine skip_ (w1 := ?_) (by rfl) rfl ?_ ?_
                   rotate_left
                   ·go_simp
                    rfl
                   refine hK.out _ _ ?_
                   clear hK K
                   refine done_ (done_of HT_.out (by kernel_rfl)) ?_
                   try go_wp2
                   have n0_ : Aside0 (Kd.S (Kd.slice 4 Kd.bool) 40 (w89.setCell ⟨go18, (((rd_T39 l0_1 x17_1).f1) : Int).toNat, none⟩ (.bool false)) w.heap.size (fun _ => True) (.slice (some ad163) x5_1.length co90) y166) := ⟨by (with_reducible repeat (first | apply Kd.S_alloc | apply Kd.S_drewN | apply Kd.S_drew)); exact HQ91.out⟩
                   have n1_ : Aside0 ((w89.setCell ⟨go18, (((rd_T39 l0_1 x17_1).f1) : Int).toNat, none⟩ (.bool false)).heap[gb156]? = some (.cells #[.int .i64 a0_0, .slice (some ad161) l0_1.length c0_1] 30 (0, 0))) := ⟨by (with_reducible repeat (first | refine qad ?_ _ | refine qab ?_ | refine qae ?_ _)); refine blk_far ?_ (by have h_ := Kd.R_ne HL163_0.out BK156.out (by decide); intro e_; exact h_ (by rw [e_]; rfl)) _; (with_reducible repeat (first | refine qad ?_ _ | refine qab ?_ | refine qae ?_ _)); exact BK156.out⟩
                   have n2_ : Aside0 ((w89.setCell ⟨go18, (((rd_T39 l0_1 x17_1).f1) : Int).toNat, none⟩ (.bool false)).heap[gb162]? = some (.cells #[.int .i64 ((rd_T39 l0_1 x17_1).f0), .int .i64 ((rd_T39 l0_1 x17_1).f1)] 39 (0, 0))) := ⟨by (with_reducible repeat (first | refine qad ?_ _ | refine qab ?_ | refine qae ?_ _)); refine blk_far ?_ (by have h_ := Kd.R_ne HL163_0.out BK162.out (by decide); intro e_; exact h_ (by rw [e_]; rfl)) _; (with_reducible repeat (first | refine qad ?_ _ | refine qab ?_ | refine qae ?_ _)); exact BK162.out⟩
                   have n3_ : Aside0 (Below w.heap.size w (w89.setCell ⟨go18, (((rd_T39 l0_1 x17_1).f1) : Int).toNat, none⟩ (.bool false))) := ⟨by repeat (first | (with_reducible first | exact HB.out | apply qal | apply qac | apply qaf | refine qag ?_ GB18.out | refine qag ?_ GE156.out | refine qag ?_ GE162.out) | exact HB.out)⟩
                   (try clear HO_5)
                   (try clear BK156)
                   (try clear BK162)
                   (try clear HB)
                   generalize (w89.setCell ⟨go18, (((rd_T39 l0_1 x17_1).f1) : Int).toNat, none⟩ (.bool false)) = w93 at n0_ n1_ n2_ n3_ ⊢
                   have HO_5 := n0_
                   have BK156 := n1_
                   have BK162 := n2_
                   have HB := n3_
                   clear n0_ n1_ n2_ n3_
                   have n0_ := Aside0.mk (Kd.S_drew HO_5.out)
                   have n1_ := Aside0.mk (qab BK156.out)
                   have n2_ := Aside0.mk (qab BK162.out)
                   have n3_ := Aside0.mk (qaf HB.out)
                   clear HO_5
                   clear BK156
                   clear BK162
                   clear HB
                   have HO_5 := n0_
                   have BK156 := n1_
                   have BK162 := n2_
                   have HB := n3_
                   clear n0_ n1_ n2_ n3_
                   have p167 : 0 ≤ (((rd_T39 l0_1 x17_1).f1) : Int) := oD_
                   have q167 : ((rd_T39 l0_1 x17_1).f1) < (y166.length : Int) := (by have h_ : (((rd_T39 l0_1 x17_1).f1) : Int) < ((x5_1.length : Int) : Int) := oD_; first | (have e_ := (Kd.S_reads' HO_5.out).1; omega) | simpa only [Ny166.out, List.length_set] using h_)
                   have ql167 : ((((rd_T39 l0_1 x17_1).f1) : Int) < ((x5_1.length : Int) : Int)) = True := eq_true (oD_)
                   obtain ⟨ad167, A167_0, c167_0, e167, hx167_0, hl167_0, hi167_0⟩ := at_L4 (Kd.S_reads' HO_5.out).2.2 ((rd_T39 l0_1 x17_1).f1) p167 q167
                   obtain rfl : ad163 = ad167 := (by injection e167)
                   obtain ⟨ce167, hce167, hMe167, hcc167⟩ := Kd.S_get HO_5.out [] ((rd_T39 l0_1 x17_1).f1) p167 (by first | exact q167 | exact oD_ | (have e_ := (Kd.S_reads' HO_5.out).1; omega))
                   obtain ⟨ve167_0, rfl, ge167_0⟩ := hMe167
                   have hv167_0 := hcc167 0 _ rfl
                   rw [Nat.add_zero, show ((Kd.slice 4 Kd.bool)).sz = 1 from rfl, Nat.mul_one] at hv167_0
                   replace hv167_0 := Option.some.inj (hv167_0.symm.trans hx167_0)
                   rw [hv167_0] at ge167_0
                   have HL167_0 := Aside0.mk (show Kd.R Kd.bool 4 _ _ _ _ (rd_L4 y166 ((rd_T39 l0_1 x17_1).f1)) from ge167_0)
                   clear hv167_0 ge167_0
                   have HX167_0 := Aside0.mk hx167_0
                   clear hcc167 hce167
                   have HR167_0 := Aside0.mk hi167_0
                   have HC167_0 := Aside0.mk hl167_0
                   clear hi167_0 hl167_0
                   replace p167 := eq_true p167
                   replace q167 := eq_true q167
                   have p21 : 0 ≤ (((rd_T39 l0_1 x17_1).f0) : Int) := oD_
                   have q21 : (((rd_T39 l0_1 x17_1).f0) : Int) < (((rd_L4 y166 ((rd_T39 l0_1 x17_1).f1)).length : Int) : Int) := oD_
                   obtain ⟨go21, co21, eo21, gb21, gl21, cl21, HG21⟩ := Kd.R_form HL167_0.out (by omega)
                   (first | cases eo21 | (injection eo21 with ea_ en_ ec_; (first | subst ea_ | (injection ea_ with ea_; subst ea_)); subst ec_; clear en_))
                   have GB21 := Aside0.mk gb21
                   have GG21 := Aside0.mk HG21
                   clear gb21 gl21 HG21
                   obtain ⟨hx21_0, hf21_0⟩ := Kd.R_celln false HL167_0.out (((rd_T39 l0_1 x17_1).f0) : Int) p21 q21
                   replace p21 := eq_true p21
                   replace q21 := eq_true q21
                   have hq95 : (((rd_T39 l0_1 x17_1).f1) : Int) < (y166.length : Int) := (by have h_ : (((rd_T39 l0_1 x17_1).f1) : Int) < ((x5_1.length : Int) : Int) := oD_; first | exact h_ | (have e_ := (Kd.S_reads' HO_5.out).1; omega) | simpa only [Ny166.out, List.length_set] using h_)
                   obtain ⟨oki95, ce95, hcl95, hM95, hcc95, hok95, hbk95⟩ := Kd.S_borrow HO_5.out [] (((rd_T39 l0_1 x17_1).f1) : Int) (oD_) (by first | exact hq95 | exact oD_ | (have e_ := (Kd.S_reads' HO_5.out).1; omega))
                   obtain ⟨ve95_0, rfl, ge95_0⟩ := hM95
                   have hv95 := hcc95 0 _ rfl
                   rw [Nat.add_zero, show ((Kd.slice 4 Kd.bool)).sz = 1 from rfl, Nat.mul_one] at hv95
                   replace hv95 := Option.some.inj (hv95.symm.trans HX167_0.out)
                   subst hv95
                   clear hcc95 hcl95
                   replace ge95_0 := (show Kd.R Kd.bool 4 _ _ _ _ (rd_L4 y166 ((rd_T39 l0_1 x17_1).f1)) from ge95_0)
                   have HP95 := Kd.R_putg ge95_0 (((rd_T39 l0_1 x17_1).f0) : Int) false
                   rw [← Ny168.out] at HP95
                   have HS95 := hbk95 HP95.2 (fun k_ e_ => by injection e_ with e_; subst e_; exact ge95_0.1 _ rfl) (x' := y168) (Kd.M_row HP95.1)
                   rw [← Ny170.out] at HS95
                   have HQ95 := Aside0.mk HS95
                   clear HP95 HS95 hbk95 hok95
                   refine start_ (n := 9) (S := fun w' => w'.cell? ⟨gb162, 0, none⟩ = some (.int .i64 ((rd_T39 l0_1 x17_1).f0)) ∧ w'.cell? ⟨gb162, 1, none⟩ = some (.int .i64 ((rd_T39 l0_1 x17_1).f1)) ∧ w'.cell? (ad163.add (((rd_T39 l0_1 x17_1).f1)).toNat) = some (.slice (some ⟨go21, 0, none⟩) (rd_L4 y166 ((rd_T39 l0_1 x17_1).f1)).length c167_0)) (ds := [8]) #[fF,fF,fF,fF,fF,fF,fF,fF,fF] (by kernel_rfl) rfl rfl ⟨(qaa BK162.out 0).trans rfl, (qaa BK162.out 1).trans rfl, hx167_0⟩ (fun hHeld => ?_); refine with_tabW spec_ShortestRound.tab9 spec_ShortestRound.bits9 (fun HT_ HW_ => ?_)
                   generalize w93.drew = w94 at HO_5 BK156 BK162 HB GG21 HL167_0 HQ91 HQ95 HR167_0 HX167_0 hf21_0 hx167_0 hx21_0 hHeld ⊢
                   refine qan (i := 0) (N := some 29) (v := ?_) (a' := ?_) #[tT,fF,fF,fF,fF,fF,fF,fF,fF] rfl rfl (aO_ HT_.out) (fun _ _ _ h => h) (.inl ⟨by rfl, ?_⟩) ?_ ?_
                   rotate_left
                   ·intro w'
                    go_simp
                    with_reducible rfl
                   rotate_left
                   ·simp only [Act.put, sP_, qai, qaj]
                    rfl
                   refine qan (i := 1) (N := some 30) (v := ?_) (a' := ?_) #[tT,tT,fF,fF,fF,fF,fF,fF,fF] rfl rfl (aO_ HT_.out) (fun _ _ _ h => h) (.inl ⟨by rfl, ?_⟩) ?_ ?_
                   rotate_left
                   ·intro w'
                    go_simp
                    with_reducible rfl
                   rotate_left
                   ·simp only [Act.put, sP_, qai, qaj]
                    rfl
                   refine qan (i := 5) (N := some 34) (v := ?_) (a' := ?_) #[tT,tT,fF,fF,fF,tT,fF,fF,fF] rfl rfl (aO_ HT_.out) (fun _ _ _ h => h) (.inl ⟨by rfl, ?_⟩) ?_ ?_
                   rotate_left
                   ·intro w'
                    go_simp
                    with_reducible rfl
                   rotate_left
                   ·simp only [Act.put, sP_, qai, qaj]
                    rfl
                   refine take_ (i := 2) (N := some 31) (v := ?_) (a' := ?_) #[tT,tT,tT,fF,fF,tT,fF,fF,fF] rfl rfl (qar HT_.out HW_.out (by kernel_rfl)) (fun _ _ _ h => h) (Or.inl ⟨by rfl, ?_⟩) hHeld ?_ ?_
                   rotate_left
                   ·rintro w' ⟨s0, s1, s2⟩
                    go_simp
                    with_reducible rfl
                   rotate_left
                   ·simp only [Act.put, sP_, qai, qaj]
                    rfl
                   refine qan (i := 3) (N := some 32) (v := ?_) (a' := ?_) #[tT,tT,tT,tT,fF,tT,fF,fF,fF] rfl rfl (aO_ HT_.out) (fun _ _ _ h => h) (.inl ⟨by rfl, ?_⟩) ?_ ?_
                   rotate_left
                   ·intro w'
                    go_simp
                    with_reducible rfl
                   rotate_left
                   ·simp only [Act.put, sP_, qai, qaj]
                    rfl
                   refine take_ (i := 4) (N := some 33) (v := ?_) (a' := ?_) #[tT,tT,tT,tT,tT,tT,fF,fF,fF] rfl rfl (qar HT_.out HW_.out (by kernel_rfl)) (fun _ _ _ h => h) (Or.inl ⟨by rfl, ?_⟩) hHeld ?_ ?_
                   rotate_left
                   ·rintro w' ⟨s0, s1, s2⟩
                    go_simp
                    with_reducible rfl
                   rotate_left
                   ·simp only [Act.put, sP_, qai, qaj]
                    rfl
                   refine take_ (i := 6) (N := some 35) (v := ?_) (a' := ?_) #[tT,tT,tT,tT,tT,tT,tT,fF,fF] rfl rfl (qar HT_.out HW_.out (by kernel_rfl)) (fun _ _ _ h => h) (Or.inl ⟨by rfl, ?_⟩) hHeld ?_ ?_
                   rotate_left
                   ·rintro w' ⟨s0, s1, s2⟩
                    go_simp
                    with_reducible rfl
                   rotate_left
                   ·simp only [Act.put, sP_, qai, qaj]
                    rfl
                   refine qan (i := 7) (N := some 36) (v := ?_) (a' := ?_) #[tT,tT,tT,tT,tT,tT,tT,tT,fF] rfl rfl (aO_ HT_.out) (fun _ _ _ h => h) (.inl ⟨by rfl, ?_⟩) ?_ ?_
                   rotate_left
                   ·intro w'
                    go_simp
                    with_reducible rfl
                   rotate_left
                   ·simp only [Act.put, sP_, qai, qaj]
                    rfl
                   refine last_ (i := 8) (N := none) #[tT,tT,tT,tT,tT,tT,tT,tT,tT] rfl rfl (one_of HT_.out (by kernel_rfl)) (by decide) (fun K hK => ?_)
                   refine skip_ (w1 := ?_) (by rfl) rfl ?_ ?_
                   rotate_left
                   ·go_simp
                    rfl
                   refine hK.out _ _ ?_
                   clear hK K
                   refine done_ (done_of HT_.out (by kernel_rfl)) ?_
                   try go_wp2
                   have n0_ : Aside0 (Kd.S (Kd.slice 4 Kd.bool) 40 (w94.setCell ⟨go21, (((rd_T39 l0_1 x17_1).f0) : Int).toNat, none⟩ (.bool false)) w.heap.size (fun _ => True) (.slice (some ad163) x5_1.length co90) y170) := ⟨by (with_reducible repeat (first | apply Kd.S_alloc | apply Kd.S_drewN | apply Kd.S_drew)); exact HQ95.out⟩
                   have n1_ : Aside0 ((w94.setCell ⟨go21, (((rd_T39 l0_1 x17_1).f0) : Int).toNat, none⟩ (.bool false)).heap[gb156]? = some (.cells #[.int .i64 a0_0, .slice (some ad161) l0_1.length c0_1] 30 (0, 0))) := ⟨by (with_reducible repeat (first | refine qad ?_ _ | refine qab ?_ | refine qae ?_ _)); refine blk_far ?_ (by have h_ := Kd.R_ne HL167_0.out BK156.out (by decide); intro e_; exact h_ (by rw [e_]; rfl)) _; (with_reducible repeat (first | refine qad ?_ _ | refine qab ?_ | refine qae ?_ _)); exact BK156.out⟩
                   have n2_ : Aside0 ((w94.setCell ⟨go21, (((rd_T39 l0_1 x17_1).f0) : Int).toNat, none⟩ (.bool false)).heap[gb162]? = some (.cells #[.int .i64 ((rd_T39 l0_1 x17_1).f0), .int .i64 ((rd_T39 l0_1 x17_1).f1)] 39 (0, 0))) := ⟨by (with_reducible repeat (first | refine qad ?_ _ | refine qab ?_ | refine qae ?_ _)); refine blk_far ?_ (by have h_ := Kd.R_ne HL167_0.out BK162.out (by decide); intro e_; exact h_ (by rw [e_]; rfl)) _; (with_reducible repeat (first | refine qad ?_ _ | refine qab ?_ | refine qae ?_ _)); exact BK162.out⟩
                   have n3_ : Aside0 (Below w.heap.size w (w94.setCell ⟨go21, (((rd_T39 l0_1 x17_1).f0) : Int).toNat, none⟩ (.bool false))) := ⟨by repeat (first | (with_reducible first | exact HB.out | apply qal | apply qac | apply qaf | refine qag ?_ GB21.out | refine qag ?_ GE156.out | refine qag ?_ GE162.out) | exact HB.out)⟩
                   (try clear HO_5)
                   (try clear BK156)
                   (try clear BK162)
                   (try clear HB)
                   generalize (w94.setCell ⟨go21, (((rd_T39 l0_1 x17_1).f0) : Int).toNat, none⟩ (.bool false)) = w97 at n0_ n1_ n2_ n3_ ⊢
                   have HO_5 := n0_
                   have BK156 := n1_
                   have BK162 := n2_
                   have HB := n3_
                   clear n0_ n1_ n2_ n3_
                   have n0_ := Aside0.mk (Kd.S_drew HO_5.out)
                   have n1_ := Aside0.mk (qab BK156.out)
                   have n2_ := Aside0.mk (qab BK162.out)
                   have n3_ := Aside0.mk (qaf HB.out)
                   clear HO_5
                   clear BK156
                   clear BK162
                   clear HB
                   have HO_5 := n0_
                   have BK156 := n1_
                   have BK162 := n2_
                   have HB := n3_
                   clear n0_ n1_ n2_ n3_
                   refine start_ (n := 9) (S := fun w' => w'.cell? ⟨gb162, 0, none⟩ = some (.int .i64 ((rd_T39 l0_1 x17_1).f0)) ∧ w'.cell? ⟨gb162, 1, none⟩ = some (.int .i64 ((rd_T39 l0_1 x17_1).f1))) (ds := []) #[fF,fF,fF,fF,fF,fF,fF,fF,fF] (by kernel_rfl) rfl rfl ⟨(qaa BK162.out 0).trans rfl, (qaa BK162.out 1).trans rfl⟩ (fun hHeld => ?_); refine with_tabW spec_ShortestRound.tab10 spec_ShortestRound.bits10 (fun HT_ HW_ => ?_)
                   generalize w97.drew = w98 at HO_5 BK156 BK162 HB HQ95 hHeld ⊢
                   refine qan (i := 0) (N := some 37) (v := ?_) (a' := ?_) #[tT,fF,fF,fF,fF,fF,fF,fF,fF] rfl rfl (aO_ HT_.out) (fun _ _ _ h => h) (.inl ⟨by rfl, ?_⟩) ?_ ?_
                   rotate_left
                   ·intro w'
                    go_simp
                    with_reducible rfl
                   rotate_left
                   ·simp only [Act.put, sP_, qai, qaj]
                    rfl
                   refine qan (i := 1) (N := some 38) (v := ?_) (a' := ?_) #[tT,tT,fF,fF,fF,fF,fF,fF,fF] rfl rfl (aO_ HT_.out) (fun _ _ _ h => h) (.inl ⟨by rfl, ?_⟩) ?_ ?_
                   rotate_left
                   ·intro w'
                    go_simp
                    with_reducible rfl
                   rotate_left
                   ·simp only [Act.put, sP_, qai, qaj]
                    rfl
                   refine qan (i := 4) (N := some 41) (v := ?_) (a' := ?_) #[tT,tT,fF,fF,tT,fF,fF,fF,fF] rfl rfl (aO_ HT_.out) (fun _ _ _ h => h) (.inl ⟨by rfl, ?_⟩) ?_ ?_
                   rotate_left
                   ·intro w'
                    go_simp
                    with_reducible rfl
                   rotate_left
                   ·simp only [Act.put, sP_, qai, qaj]
                    rfl
                   refine take_ (i := 2) (N := some 39) (v := ?_) (a' := ?_) #[tT,tT,tT,fF,tT,fF,fF,fF,fF] rfl rfl (qar HT_.out HW_.out (by kernel_rfl)) (fun _ _ _ h => h) (Or.inl ⟨by rfl, ?_⟩) hHeld ?_ ?_
                   rotate_left
                   ·rintro w' ⟨s0, s1⟩
                    go_simp
                    with_reducible rfl
                   rotate_left
                   ·simp only [Act.put, sP_, qai, qaj]
                    rfl
                   refine take_ (i := 5) (N := some 42) (v := ?_) (a' := ?_) #[tT,tT,tT,fF,tT,tT,fF,fF,fF] rfl rfl (qar HT_.out HW_.out (by kernel_rfl)) (fun _ _ _ h => h) (Or.inl ⟨by rfl, ?_⟩) hHeld ?_ ?_
                   rotate_left
                   ·rintro w' ⟨s0, s1⟩
                    go_simp
                    with_reducible rfl
                   rotate_left
                   ·simp only [Act.put, sP_, qai, qaj]
                    rfl
                   refine one_ (i := 3) (N := some 40) #[tT,tT,tT,tT,tT,tT,fF,fF,fF] rfl rfl (one_of HT_.out (by kernel_rfl)) (by decide) (fun K hK => ?_)
                   refine goes_ Tryd.func12 (by kernel_rfl) rfl #[.slice (some ad163) y170.length co90, .int .i64 ((rd_T39 l0_1 x17_1).f0)] (by rfl) rfl rfl (by (try simp only [List.map_toArray, List.map_cons, List.map_nil]); first | done | (rw [show y170.length = x5_1.length from (Kd.S_reads' HO_5.out).1.symm] <;> rfl) | rfl | (simp only [List.length_drop, List.length_take]; rfl)) ?_
                   with_reducible refine (spec_cfDistances.calls k1 _ _ y170 ((rd_T39 l0_1 x17_1).f0) t171 _ ?side1 ?side2 A22.out).mono ?_
                   (case side1 => repeat (first | exact (Kd.S_reads' HO_5.out).2.2 | (with_reducible refine Kd.C_alloc ?_ _) | (with_reducible refine Kd.C_drewN ?_ _) | (with_reducible refine Kd.C_drew ?_)))
                   (case side2 => rw [show y170.length = x5_1.length from (Kd.S_reads' HO_5.out).1.symm]; exact (Kd.S_reads' HO_5.out).2.1)
                   rintro e w99 ⟨v172, rfl, ho0, hb⟩
                   refine ⟨_, rfl, ?_⟩
                   have n0_ := Aside0.mk (Kd.S_below (uS_ HO_5.out) hb)
                   have n1_ := Aside0.mk (Kd.R_lower ho0 (qap (hB2_ GE156.out GE162.out)))
                   have n2_ := Aside0.mk (qaq (g := gb156) (o := .cells #[.int .i64 a0_0, .slice (some ad161) l0_1.length c0_1] 30 (0, 0)) (uB_ BK156.out) hb)
                   have n3_ := Aside0.mk (qaq (g := gb162) (o := .cells #[.int .i64 ((rd_T39 l0_1 x17_1).f0), .int .i64 ((rd_T39 l0_1 x17_1).f1)] 39 (0, 0)) (uB_ BK162.out) hb)
                   have n4_ := Aside0.mk (qao (hB2_ GE156.out GE162.out) hb)
                   clear HO_5
                   clear BK156
                   clear BK162
                   clear HB
                   have HO_5 := n0_
                   have HO173 := n1_
                   have BK156 := n2_
                   have BK162 := n3_
                   have HB := n4_
                   clear n0_ n1_ n2_ n3_ n4_
                   (try clear hb)
                   (try clear hb2)
                   (try clear hk)
                   (try clear hi)
                   (try clear ho0)
                   obtain ⟨Ao100, co100, eo100⟩ := Kd.R_slice HO173.out
                   (first | subst eo100 | (injection eo100 with f1_ f2_ f3_; have f4_ := f1_.symm; have f5_ := f3_.symm; clear f1_ f2_ f3_; subst f4_; subst f5_))
                   have p174 : 0 ≤ (((rd_T39 l0_1 x17_1).f1) : Int) := oD_
                   have q174 : ((rd_T39 l0_1 x17_1).f1) < (t171.length : Int) := oD_
                   obtain ⟨ad174, e174, hx174_0⟩ := Kd.at_int (Kd.R_reads' HO173.out).2.2 ((rd_T39 l0_1 x17_1).f1) p174 q174
                   cases e174
                   replace p174 := eq_true p174
                   replace q174 := eq_true q174
                   refine hK.out _ _ ⟨(qaa BK162.out 0).trans rfl, (qaa BK162.out 1).trans rfl⟩ (fun hHeld => ?_)
                   clear hK K
                   refine norm_ (a' := ?_) ?_ ?_
                   rotate_left
                   ·show Act.put _ (some 40) _ = _
                    simp only [Act.put, sP_, qai, qaj]
                    rfl
                   refine qan (i := 6) (N := some 43) (v := ?_) (a' := ?_) #[tT,tT,tT,tT,tT,tT,tT,fF,fF] rfl rfl (aO_ HT_.out) (fun _ _ _ h => h) (.inl ⟨by rfl, ?_⟩) ?_ ?_
                   rotate_left
                   ·intro w'
                    go_simp
                    with_reducible rfl
                   rotate_left
                   ·simp only [Act.put, sP_, qai, qaj]
                    rfl
                   refine one_ (i := 7) (N := some 44) #[tT,tT,tT,tT,tT,tT,tT,tT,fF] rfl rfl (one_of HT_.out (by kernel_rfl)) (by decide) (fun K hK => ?_)
                   refine event_step (v := .int .i64 (rd t171 ((rd_T39 l0_1 x17_1).f1))) (by rfl) (by go_simp; with_reducible rfl) ?_
                   refine hK.out _ _ hHeld (fun hHeld => ?_)
                   clear hK K
                   refine norm_ (a' := ?_) ?_ ?_
                   rotate_left
                   ·show Act.put _ (some 44) _ = _
                    simp only [Act.put, sP_, qai, qaj]
                    rfl
                   refine qan (i := 8) (N := some 8) (v := ?_) (a' := ?_) #[tT,tT,tT,tT,tT,tT,tT,tT,tT] rfl rfl (aO_ HT_.out) (fun _ _ _ h => h) (.inl ⟨by rfl, ?_⟩) ?_ ?_
                   rotate_left
                   ·intro w'
                    go_simp
                    with_reducible rfl
                   rotate_left
                   ·simp only [Act.put, sP_, qai, qaj]
                    rfl
                   refine done_ (done_of HT_.out (by kernel_rfl)) ?_
                   try go_wp2
                   have n0_ := Aside0.mk (Kd.S_drew HO_5.out)
                   have n1_ := Aside0.mk (Kd.R_drew HO173.out)
                   have n2_ := Aside0.mk (qab BK156.out)
                   have n3_ := Aside0.mk (qab BK162.out)
                   have n4_ := Aside0.mk (qaf HB.out)
                   clear HO_5
                   clear HO173
                   clear BK156
                   clear BK162
                   clear HB
                   have HO_5 := n0_
                   have HO173 := n1_
                   have BK156 := n2_
                   have BK162 := n3_
                   have HB := n4_
                   clear n0_ n1_ n2_ n3_ n4_
                   have p191 : 0 ≤ (((rd_T39 l0_1 x17_1).f0) : Int) := oD_
                   have q191 : ((rd_T39 l0_1 x17_1).f0) < (y170.length : Int) := (by have h_ : (((rd_T39 l0_1 x17_1).f0) : Int) < ((x5_1.length : Int) : Int) := oD_; first | (have e_ := (Kd.S_reads' HO_5.out).1; omega) | simpa only [Ny166.out, Ny170.out, List.length_set] using h_)
                   have ql191 : ((((rd_T39 l0_1 x17_1).f0) : Int) < ((x5_1.length : Int) : Int)) = True := eq_true (oD_)
                   obtain ⟨ad191, A191_0, c191_0, e191, hx191_0, hl191_0, hi191_0⟩ := at_L4 (Kd.S_reads' HO_5.out).2.2 ((rd_T39 l0_1 x17_1).f0) p191 q191
                   obtain rfl : ad163 = ad191 := (by injection e191)
                   obtain ⟨ce191, hce191, hMe191, hcc191⟩ := Kd.S_get HO_5.out [] ((rd_T39 l0_1 x17_1).f0) p191 (by first | exact q191 | exact oD_ | (have e_ := (Kd.S_reads' HO_5.out).1; omega))
                   obtain ⟨ve191_0, rfl, ge191_0⟩ := hMe191
                   have hv191_0 := hcc191 0 _ rfl
                   rw [Nat.add_zero, show ((Kd.slice 4 Kd.bool)).sz = 1 from rfl, Nat.mul_one] at hv191_0
                   replace hv191_0 := Option.some.inj (hv191_0.symm.trans hx191_0)
                   rw [hv191_0] at ge191_0
                   have HL191_0 := Aside0.mk (show Kd.R Kd.bool 4 _ _ _ _ (rd_L4 y170 ((rd_T39 l0_1 x17_1).f0)) from ge191_0)
                   clear hv191_0 ge191_0
                   have HX191_0 := Aside0.mk hx191_0
                   clear hcc191 hce191
                   have HR191_0 := Aside0.mk hi191_0
                   have HC191_0 := Aside0.mk hl191_0
                   clear hi191_0 hl191_0
                   replace p191 := eq_true p191
                   replace q191 := eq_true q191
                   have p82 : 0 ≤ (((rd_T39 l0_1 x17_1).f1) : Int) := oD_
                   have q82 : (((rd_T39 l0_1 x17_1).f1) : Int) < (((rd_L4 y170 ((rd_T39 l0_1 x17_1).f0)).length : Int) : Int) := oD_
                   obtain ⟨go82, co82, eo82, gb82, gl82, cl82, HG82⟩ := Kd.R_form HL191_0.out (by omega)
                   (first | cases eo82 | (injection eo82 with ea_ en_ ec_; (first | subst ea_ | (injection ea_ with ea_; subst ea_)); subst ec_; clear en_))
                   have GB82 := Aside0.mk gb82
                   have GG82 := Aside0.mk HG82
                   clear gb82 gl82 HG82
                   obtain ⟨hx82_0, hf82_0⟩ := Kd.R_celln false HL191_0.out (((rd_T39 l0_1 x17_1).f1) : Int) p82 q82
                   replace p82 := eq_true p82
                   replace q82 := eq_true q82
                   have hq102 : (((rd_T39 l0_1 x17_1).f0) : Int) < (y170.length : Int) := (by have h_ : (((rd_T39 l0_1 x17_1).f0) : Int) < ((x5_1.length : Int) : Int) := oD_; first | exact h_ | (have e_ := (Kd.S_reads' HO_5.out).1; omega) | simpa only [Ny166.out, Ny170.out, List.length_set] using h_)
                   obtain ⟨oki102, ce102, hcl102, hM102, hcc102, hok102, hbk102⟩ := Kd.S_borrow HO_5.out [] (((rd_T39 l0_1 x17_1).f0) : Int) (oD_) (by first | exact hq102 | exact oD_ | (have e_ := (Kd.S_reads' HO_5.out).1; omega))
                   obtain ⟨ve102_0, rfl, ge102_0⟩ := hM102
                   have hv102 := hcc102 0 _ rfl
                   rw [Nat.add_zero, show ((Kd.slice 4 Kd.bool)).sz = 1 from rfl, Nat.mul_one] at hv102
                   replace hv102 := Option.some.inj (hv102.symm.trans HX191_0.out)
                   subst hv102
                   clear hcc102 hcl102
                   replace ge102_0 := (show Kd.R Kd.bool 4 _ _ _ _ (rd_L4 y170 ((rd_T39 l0_1 x17_1).f0)) from ge102_0)
                   have HP102 := Kd.R_putg ge102_0 (((rd_T39 l0_1 x17_1).f1) : Int) true
                   rw [← Ny192.out] at HP102
                   have HS102 := hbk102 HP102.2 (fun k_ e_ => by injection e_ with e_; subst e_; exact ge102_0.1 _ rfl) (x' := y192) (Kd.M_row HP102.1)
                   rw [← Ny194.out] at HS102
                   have HQ102 := Aside0.mk HS102
                   clear HP102 HS102 hbk102 hok102
                   refine start_ (n := 9) (S := fun w' => w'.cell? ⟨gb162, 0, none⟩ = some (.int .i64 ((rd_T39 l0_1 x17_1).f0)) ∧ w'.cell? ⟨gb162, 1, none⟩ = some (.int .i64 ((rd_T39 l0_1 x17_1).f1)) ∧ w'.cell? (ad163.add (((rd_T39 l0_1 x17_1).f0)).toNat) = some (.slice (some ⟨go82, 0, none⟩) (rd_L4 y170 ((rd_T39 l0_1 x17_1).f0)).length c191_0)) (ds := [8]) #[fF,fF,fF,fF,fF,fF,fF,fF,fF] (by kernel_rfl) rfl rfl ⟨(qaa BK162.out 0).trans rfl, (qaa BK162.out 1).trans rfl, hx191_0⟩ (fun hHeld => ?_); refine with_tabW spec_ShortestRound.tab13 spec_ShortestRound.bits13 (fun HT_ HW_ => ?_)
                   generalize w99.drew = w101 at HO_5 HO173 BK156 BK162 HB GG82 HL191_0 HQ102 HR191_0 HX191_0 hf82_0 hx191_0 hx82_0 hHeld ⊢
                   refine qan (i := 0) (N := some 59) (v := ?_) (a' := ?_) #[tT,fF,fF,fF,fF,fF,fF,fF,fF] rfl rfl (aO_ HT_.out) (fun _ _ _ h => h) (.inl ⟨by rfl, ?_⟩) ?_ ?_
                   rotate_left
                   ·intro w'
                    go_simp
                    with_reducible rfl
                   rotate_left
                   ·simp only [Act.put, sP_, qai, qaj]
                    rfl
                   refine qan (i := 1) (N := some 60) (v := ?_) (a' := ?_) #[tT,tT,fF,fF,fF,fF,fF,fF,fF] rfl rfl (aO_ HT_.out) (fun _ _ _ h => h) (.inl ⟨by rfl, ?_⟩) ?_ ?_
                   rotate_left
                   ·intro w'
                    go_simp
                    with_reducible rfl
                   rotate_left
                   ·simp only [Act.put, sP_, qai, qaj]
                    rfl
                   refine qan (i := 5) (N := some 64) (v := ?_) (a' := ?_) #[tT,tT,fF,fF,fF,tT,fF,fF,fF] rfl rfl (aO_ HT_.out) (fun _ _ _ h => h) (.inl ⟨by rfl, ?_⟩) ?_ ?_
                   rotate_left
                   ·intro w'
                    go_simp
                    with_reducible rfl
                   rotate_left
                   ·simp only [Act.put, sP_, qai, qaj]
                    rfl
                   refine take_ (i := 2) (N := some 61) (v := ?_) (a' := ?_) #[tT,tT,tT,fF,fF,tT,fF,fF,fF] rfl rfl (qar HT_.out HW_.out (by kernel_rfl)) (fun _ _ _ h => h) (Or.inl ⟨by rfl, ?_⟩) hHeld ?_ ?_
                   rotate_left
                   ·rintro w' ⟨s0, s1, s2⟩
                    go_simp
                    with_reducible rfl
                   rotate_left
                   ·simp only [Act.put, sP_, qai, qaj]
                    rfl
                   refine qan (i := 3) (N := some 62) (v := ?_) (a' := ?_) #[tT,tT,tT,tT,fF,tT,fF,fF,fF] rfl rfl (aO_ HT_.out) (fun _ _ _ h => h) (.inl ⟨by rfl, ?_⟩) ?_ ?_
                   rotate_left
                   ·intro w'
                    go_simp
                    with_reducible rfl
                   rotate_left
                   ·simp only [Act.put, sP_, qai, qaj]
                    rfl
                   refine take_ (i := 4) (N := some 63) (v := ?_) (a' := ?_) #[tT,tT,tT,tT,tT,tT,fF,fF,fF] rfl rfl (qar HT_.out HW_.out (by kernel_rfl)) (fun _ _ _ h => h) (Or.inl ⟨by rfl, ?_⟩) hHeld ?_ ?_
                   rotate_left
                   ·rintro w' ⟨s0, s1, s2⟩
                    go_simp
                    with_reducible rfl
                   rotate_left
                   ·simp only [Act.put, sP_, qai, qaj]
                    rfl
                   refine take_ (i := 6) (N := some 65) (v := ?_) (a' := ?_) #[tT,tT,tT,tT,tT,tT,tT,fF,fF] rfl rfl (qar HT_.out HW_.out (by kernel_rfl)) (fun _ _ _ h => h) (Or.inl ⟨by rfl, ?_⟩) hHeld ?_ ?_
                   rotate_left
                   ·rintro w' ⟨s0, s1, s2⟩
                    go_simp
                    with_reducible rfl
                   rotate_left
                   ·simp only [Act.put, sP_, qai, qaj]
                    rfl
                   refine qan (i := 7) (N := some 66) (v := ?_) (a' := ?_) #[tT,tT,tT,tT,tT,tT,tT,tT,fF] rfl rfl (aO_ HT_.out) (fun _ _ _ h => h) (.inl ⟨by rfl, ?_⟩) ?_ ?_
                   rotate_left
                   ·intro w'
                    go_simp
                    with_reducible rfl
                   rotate_left
                   ·simp only [Act.put, sP_, qai, qaj]
                    rfl
                   refine last_ (i := 8) (N := none) #[tT,tT,tT,tT,tT,tT,tT,tT,tT] rfl rfl (one_of HT_.out (by kernel_rfl)) (by decide) (fun K hK => ?_)
                   refine skip_ (w1 := ?_) (by rfl) rfl ?_ ?_
                   rotate_left
                   ·go_simp
                    rfl
                   refine hK.out _ _ ?_
                   clear hK K
                   refine done_ (done_of HT_.out (by kernel_rfl)) ?_
                   try go_wp2
                   have n0_ : Aside0 (Kd.S (Kd.slice 4 Kd.bool) 40 (w101.setCell ⟨go82, (((rd_T39 l0_1 x17_1).f1) : Int).toNat, none⟩ (.bool true)) w.heap.size (fun _ => True) (.slice (some ad163) x5_1.length co90) y194) := ⟨by (with_reducible repeat (first | apply Kd.S_alloc | apply Kd.S_drewN | apply Kd.S_drew)); exact HQ102.out⟩
                   have n1_ : Aside0 (Kd.R (Kd.int .i64) 3 (w101.setCell ⟨go82, (((rd_T39 l0_1 x17_1).f1) : Int).toNat, none⟩ (.bool true)) w.heap.size (fun _ => True) (.slice (some ad174) t171.length co100) t171) := ⟨by (with_reducible repeat (first | apply Kd.R_alloc | apply Kd.R_drewN | apply Kd.R_drew)); exact Kd.R_mono (Kd.R_far (p := ⟨go82, (((rd_T39 l0_1 x17_1).f1) : Int).toNat, none⟩) (Kd.R_types HO173.out GG82.out (by decide)) (fun _ hk => hk.2) (.bool true)) (fun _ hk => trivial)⟩
                   have n2_ : Aside0 ((w101.setCell ⟨go82, (((rd_T39 l0_1 x17_1).f1) : Int).toNat, none⟩ (.bool true)).heap[gb156]? = some (.cells #[.int .i64 a0_0, .slice (some ad161) l0_1.length c0_1] 30 (0, 0))) := ⟨by (with_reducible repeat (first | refine qad ?_ _ | refine qab ?_ | refine qae ?_ _)); refine blk_far ?_ (by have h_ := Kd.R_ne HL191_0.out BK156.out (by decide); intro e_; exact h_ (by rw [e_]; rfl)) _; (with_reducible repeat (first | refine qad ?_ _ | refine qab ?_ | refine qae ?_ _)); exact BK156.out⟩
                   have n3_ : Aside0 ((w101.setCell ⟨go82, (((rd_T39 l0_1 x17_1).f1) : Int).toNat, none⟩ (.bool true)).heap[gb162]? = some (.cells #[.int .i64 ((rd_T39 l0_1 x17_1).f0), .int .i64 ((rd_T39 l0_1 x17_1).f1)] 39 (0, 0))) := ⟨by (with_reducible repeat (first | refine qad ?_ _ | refine qab ?_ | refine qae ?_ _)); refine blk_far ?_ (by have h_ := Kd.R_ne HL191_0.out BK162.out (by decide); intro e_; exact h_ (by rw [e_]; rfl)) _; (with_reducible repeat (first | refine qad ?_ _ | refine qab ?_ | refine qae ?_ _)); exact BK162.out⟩
                   have n4_ : Aside0 (Below w.heap.size w (w101.setCell ⟨go82, (((rd_T39 l0_1 x17_1).f1) : Int).toNat, none⟩ (.bool true))) := ⟨by repeat (first | (with_reducible first | exact HB.out | apply qal | apply qac | apply qaf | refine qag ?_ GB82.out | refine qag ?_ GE156.out | refine qag ?_ GE162.out) | exact HB.out)⟩
                   (try clear HO_5)
                   (try clear HO173)
                   (try clear BK156)
                   (try clear BK162)
                   (try clear HB)
                   generalize (w101.setCell ⟨go82, (((rd_T39 l0_1 x17_1).f1) : Int).toNat, none⟩ (.bool true)) = w104 at n0_ n1_ n2_ n3_ n4_ ⊢
                   have HO_5 := n0_
                   have HO173 := n1_
                   have BK156 := n2_
                   have BK162 := n3_
                   have HB := n4_
                   clear n0_ n1_ n2_ n3_ n4_
                   have n0_ := Aside0.mk (Kd.S_drew HO_5.out)
                   have n1_ := Aside0.mk (Kd.R_drew HO173.out)
                   have n2_ := Aside0.mk (qab BK156.out)
                   have n3_ := Aside0.mk (qab BK162.out)
                   have n4_ := Aside0.mk (qaf HB.out)
                   clear HO_5
                   clear HO173
                   clear BK156
                   clear BK162
                   clear HB
                   have HO_5 := n0_
                   have HO173 := n1_
                   have BK156 := n2_
                   have BK162 := n3_
                   have HB := n4_
                   clear n0_ n1_ n2_ n3_ n4_
                   have p195 : 0 ≤ (((rd_T39 l0_1 x17_1).f1) : Int) := oD_
                   have q195 : ((rd_T39 l0_1 x17_1).f1) < (y194.length : Int) := (by have h_ : (((rd_T39 l0_1 x17_1).f1) : Int) < ((x5_1.length : Int) : Int) := oD_; first | (have e_ := (Kd.S_reads' HO_5.out).1; omega) | simpa only [Ny166.out, Ny170.out, Ny194.out, List.length_set] using h_)
                   have ql195 : ((((rd_T39 l0_1 x17_1).f1) : Int) < ((x5_1.length : Int) : Int)) = True := eq_true (oD_)
                   obtain ⟨ad195, A195_0, c195_0, e195, hx195_0, hl195_0, hi195_0⟩ := at_L4 (Kd.S_reads' HO_5.out).2.2 ((rd_T39 l0_1 x17_1).f1) p195 q195
                   obtain rfl : ad163 = ad195 := (by injection e195)
                   obtain ⟨ce195, hce195, hMe195, hcc195⟩ := Kd.S_get HO_5.out [] ((rd_T39 l0_1 x17_1).f1) p195 (by first | exact q195 | exact oD_ | (have e_ := (Kd.S_reads' HO_5.out).1; omega))
                   obtain ⟨ve195_0, rfl, ge195_0⟩ := hMe195
                   have hv195_0 := hcc195 0 _ rfl
                   rw [Nat.add_zero, show ((Kd.slice 4 Kd.bool)).sz = 1 from rfl, Nat.mul_one] at hv195_0
                   replace hv195_0 := Option.some.inj (hv195_0.symm.trans hx195_0)
                   rw [hv195_0] at ge195_0
                   have HL195_0 := Aside0.mk (show Kd.R Kd.bool 4 _ _ _ _ (rd_L4 y194 ((rd_T39 l0_1 x17_1).f1)) from ge195_0)
                   clear hv195_0 ge195_0
                   have HX195_0 := Aside0.mk hx195_0
                   clear hcc195 hce195
                   have HR195_0 := Aside0.mk hi195_0
                   have HC195_0 := Aside0.mk hl195_0
                   clear hi195_0 hl195_0
                   replace p195 := eq_true p195
                   replace q195 := eq_true q195
                   have p84 : 0 ≤ (((rd_T39 l0_1 x17_1).f0) : Int) := oD_
                   have q84 : (((rd_T39 l0_1 x17_1).f0) : Int) < (((rd_L4 y194 ((rd_T39 l0_1 x17_1).f1)).length : Int) : Int) := oD_
                   obtain ⟨go84, co84, eo84, gb84, gl84, cl84, HG84⟩ := Kd.R_form HL195_0.out (by omega)
                   (first | cases eo84 | (injection eo84 with ea_ en_ ec_; (first | subst ea_ | (injection ea_ with ea_; subst ea_)); subst ec_; clear en_))
                   have GB84 := Aside0.mk gb84
                   have GG84 := Aside0.mk HG84
                   clear gb84 gl84 HG84
                   obtain ⟨hx84_0, hf84_0⟩ := Kd.R_celln false HL195_0.out (((rd_T39 l0_1 x17_1).f0) : Int) p84 q84
                   replace p84 := eq_true p84
                   replace q84 := eq_true q84
                   have hq106 : (((rd_T39 l0_1 x17_1).f1) : Int) < (y194.length : Int) := (by have h_ : (((rd_T39 l0_1 x17_1).f1) : Int) < ((x5_1.length : Int) : Int) := oD_; first | exact h_ | (have e_ := (Kd.S_reads' HO_5.out).1; omega) | simpa only [Ny166.out, Ny170.out, Ny194.out, List.length_set] using h_)
                   obtain ⟨oki106, ce106, hcl106, hM106, hcc106, hok106, hbk106⟩ := Kd.S_borrow HO_5.out [] (((rd_T39 l0_1 x17_1).f1) : Int) (oD_) (by first | exact hq106 | exact oD_ | (have e_ := (Kd.S_reads' HO_5.out).1; omega))
                   obtain ⟨ve106_0, rfl, ge106_0⟩ := hM106
                   have hv106 := hcc106 0 _ rfl
                   rw [Nat.add_zero, show ((Kd.slice 4 Kd.bool)).sz = 1 from rfl, Nat.mul_one] at hv106
                   replace hv106 := Option.some.inj (hv106.symm.trans HX195_0.out)
                   subst hv106
                   clear hcc106 hcl106
                   replace ge106_0 := (show Kd.R Kd.bool 4 _ _ _ _ (rd_L4 y194 ((rd_T39 l0_1 x17_1).f1)) from ge106_0)
                   have HP106 := Kd.R_putg ge106_0 (((rd_T39 l0_1 x17_1).f0) : Int) true
                   rw [← Ny196.out] at HP106
                   have HS106 := hbk106 HP106.2 (fun k_ e_ => by injection e_ with e_; subst e_; exact ge106_0.1 _ rfl) (x' := y196) (Kd.M_row HP106.1)
                   rw [← Ny198.out] at HS106
                   have HQ106 := Aside0.mk HS106
                   clear HP106 HS106 hbk106 hok106
                   refine start_ (n := 9) (S := fun w' => w'.cell? ⟨gb162, 0, none⟩ = some (.int .i64 ((rd_T39 l0_1 x17_1).f0)) ∧ w'.cell? ⟨gb162, 1, none⟩ = some (.int .i64 ((rd_T39 l0_1 x17_1).f1)) ∧ w'.cell? (ad163.add (((rd_T39 l0_1 x17_1).f1)).toNat) = some (.slice (some ⟨go84, 0, none⟩) (rd_L4 y194 ((rd_T39 l0_1 x17_1).f1)).length c195_0)) (ds := [8]) #[fF,fF,fF,fF,fF,fF,fF,fF,fF] (by kernel_rfl) rfl rfl ⟨(qaa BK162.out 0).trans rfl, (qaa BK162.out 1).trans rfl, hx195_0⟩ (fun hHeld => ?_); refine with_tabW spec_ShortestRound.tab14 spec_ShortestRound.bits14 (fun HT_ HW_ => ?_)
                   generalize w104.drew = w105 at HO_5 HO173 BK156 BK162 HB GG84 HL195_0 HQ102 HQ106 HR195_0 HX195_0 hf84_0 hx195_0 hx84_0 hHeld ⊢
                   refine qan (i := 0) (N := some 67) (v := ?_) (a' := ?_) #[tT,fF,fF,fF,fF,fF,fF,fF,fF] rfl rfl (aO_ HT_.out) (fun _ _ _ h => h) (.inl ⟨by rfl, ?_⟩) ?_ ?_
                   rotate_left
                   ·intro w'
                    go_simp
                    with_reducible rfl
                   rotate_left
                   ·simp only [Act.put, sP_, qai, qaj]
                    rfl
                   refine qan (i := 1) (N := some 68) (v := ?_) (a' := ?_) #[tT,tT,fF,fF,fF,fF,fF,fF,fF] rfl rfl (aO_ HT_.out) (fun _ _ _ h => h) (.inl ⟨by rfl, ?_⟩) ?_ ?_
                   rotate_left
                   ·intro w'
                    go_simp
                    with_reducible rfl
                   rotate_left
                   ·simp only [Act.put, sP_, qai, qaj]
                    rfl
                   refine qan (i := 5) (N := some 72) (v := ?_) (a' := ?_) #[tT,tT,fF,fF,fF,tT,fF,fF,fF] rfl rfl (aO_ HT_.out) (fun _ _ _ h => h) (.inl ⟨by rfl, ?_⟩) ?_ ?_
                   rotate_left
                   ·intro w'
                    go_simp
                    with_reducible rfl
                   rotate_left
                   ·simp only [Act.put, sP_, qai, qaj]
                    rfl
                   refine take_ (i := 2) (N := some 69) (v := ?_) (a' := ?_) #[tT,tT,tT,fF,fF,tT,fF,fF,fF] rfl rfl (qar HT_.out HW_.out (by kernel_rfl)) (fun _ _ _ h => h) (Or.inl ⟨by rfl, ?_⟩) hHeld ?_ ?_
                   rotate_left
                   ·rintro w' ⟨s0, s1, s2⟩
                    go_simp
                    with_reducible rfl
                   rotate_left
                   ·simp only [Act.put, sP_, qai, qaj]
                    rfl
                   refine qan (i := 3) (N := some 70) (v := ?_) (a' := ?_) #[tT,tT,tT,tT,fF,tT,fF,fF,fF] rfl rfl (aO_ HT_.out) (fun _ _ _ h => h) (.inl ⟨by rfl, ?_⟩) ?_ ?_
                   rotate_left
                   ·intro w'
                    go_simp
                    with_reducible rfl
                   rotate_left
                   ·simp only [Act.put, sP_, qai, qaj]
                    rfl
                   refine take_ (i := 4) (N := some 71) (v := ?_) (a' := ?_) #[tT,tT,tT,tT,tT,tT,fF,fF,fF] rfl rfl (qar HT_.out HW_.out (by kernel_rfl)) (fun _ _ _ h => h) (Or.inl ⟨by rfl, ?_⟩) hHeld ?_ ?_
                   rotate_left
                   ·rintro w' ⟨s0, s1, s2⟩
                    go_simp
                    with_reducible rfl
                   rotate_left
                   ·simp only [Act.put, sP_, qai, qaj]
                    rfl
                   refine take_ (i := 6) (N := some 73) (v := ?_) (a' := ?_) #[tT,tT,tT,tT,tT,tT,tT,fF,fF] rfl rfl (qar HT_.out HW_.out (by kernel_rfl)) (fun _ _ _ h => h) (Or.inl ⟨by rfl, ?_⟩) hHeld ?_ ?_
                   rotate_left
                   ·rintro w' ⟨s0, s1, s2⟩
                    go_simp
                    with_reducible rfl
                   rotate_left
                   ·simp only [Act.put, sP_, qai, qaj]
                    rfl
                   refine qan (i := 7) (N := some 74) (v := ?_) (a' := ?_) #[tT,tT,tT,tT,tT,tT,tT,tT,fF] rfl rfl (aO_ HT_.out) (fun _ _ _ h => h) (.inl ⟨by rfl, ?_⟩) ?_ ?_
                   rotate_left
                   ·intro w'
                    go_simp
                    with_reducible rfl
                   rotate_left
                   ·simp only [Act.put, sP_, qai, qaj]
                    rfl
                   refine last_ (i := 8) (N := none) #[tT,tT,tT,tT,tT,tT,tT,tT,tT] rfl rfl (one_of HT_.out (by kernel_rfl)) (by decide) (fun K hK => ?_)
                   refine skip_ (w1 := ?_) (by rfl) rfl ?_ ?_
                   rotate_left
                   ·go_simp
                    rfl
                   refine hK.out _ _ ?_
                   clear hK K
                   refine done_ (done_of HT_.out (by kernel_rfl)) ?_
                   try go_wp2
                   go_roundg k1
                   case measure => have := HK1.out; omega
                   case rel => exact ⟨(x4_1), (y198), (wrap64 (x17_1 + 1)), rS_, rS_, H', ⟨by have := HK1.out; omega⟩, ⟨by (with_reducible repeat (first | apply Kd.S_alloc | apply Kd.S_drewN | apply Kd.S_drew)); exact HQ106.out⟩, ⟨by (with_reducible repeat (first | refine qad ?_ _ | refine qab ?_ | refine qae ?_ _)); refine blk_far ?_ (by have h_ := Kd.R_ne HL195_0.out BK156.out (by decide); intro e_; exact h_ (by rw [e_]; rfl)) _; (with_reducible repeat (first | refine qad ?_ _ | refine qab ?_ | refine qae ?_ _)); exact BK156.out⟩, ⟨by repeat (first | (with_reducible first | exact HB.out | apply qal | apply qac | apply qaf | refine qag ?_ GB84.out | refine qag ?_ GE156.out | refine qag ?_ GE162.out) | exact HB.out)⟩⟩
                  ·rw [if_neg c83] at H
                   exact absurd H (by simp)
                 ·rw [if_neg c81] at H
                  exact absurd H (by simp)
              ·rw [if_neg c24] at H
               have c24b0 : decide (0 < (rd t171 ((rd_T39 l0_1 x17_1).f1))) = false := decide_eq_false c24
               clear c24
               by_cases c108 : ((rd_T39 l0_1 x17_1).f1) < ((rd_L4 y170 ((rd_T39 l0_1 x17_1).f0)).length : Int)
               ·rw [if_pos c108] at H
                have c108b0 : decide (((rd_T39 l0_1 x17_1).f1) < ((rd_L4 y170 ((rd_T39 l0_1 x17_1).f0)).length : Int)) = true := decide_eq_true c108
                clear c108
                obtain ⟨y200, hy200⟩ : ∃ y_ : List Bool, y_ = ((rd_L4 y170 ((rd_T39 l0_1 x17_1).f0)).set (((rd_T39 l0_1 x17_1).f1) : Int).toNat true) := ⟨_, rfl⟩
                replace H : ((some (y170.set (((rd_T39 l0_1 x17_1).f0) : Int).toNat y200 : List (List Bool))).bind fun y202 => (if ((rd_T39 l0_1 x17_1).f0) < ((rd_L4 y202 ((rd_T39 l0_1 x17_1).f1)).length : Int) then (spec_ShortestRound.l0 k1 x4_1 (y202.set (((rd_T39 l0_1 x17_1).f1) : Int).toNat ((rd_L4 y202 ((rd_T39 l0_1 x17_1).f1)).set (((rd_T39 l0_1 x17_1).f0) : Int).toNat true)) l0_1 (l0_1.length : Int) (wrap64 (x17_1 + 1))) else (none))) = some (r1, r2) := by first | (rw [hy200]; with_reducible exact H) | (have H2_ := (Option.bind_some _ _).symm.trans H; rw [hy200]; with_reducible exact H2_) | (have H2_ := (Option.bind_some _ _).symm.trans H; with_reducible exact H2_) | with_reducible exact H | (rw [hy200]; exact H) | exact H
                have Ny200 := Aside0.mk hy200
                clear hy200
                obtain ⟨y202, hy202⟩ : ∃ y_ : List (List Bool), y_ = (y170.set (((rd_T39 l0_1 x17_1).f0) : Int).toNat y200) := ⟨_, rfl⟩
                replace H : (if ((rd_T39 l0_1 x17_1).f0) < ((rd_L4 y202 ((rd_T39 l0_1 x17_1).f1)).length : Int) then (spec_ShortestRound.l0 k1 x4_1 (y202.set (((rd_T39 l0_1 x17_1).f1) : Int).toNat ((rd_L4 y202 ((rd_T39 l0_1 x17_1).f1)).set (((rd_T39 l0_1 x17_1).f0) : Int).toNat true)) l0_1 (l0_1.length : Int) (wrap64 (x17_1 + 1))) else (none)) = some (r1, r2) := by first | (rw [hy202]; with_reducible exact H) | (have H2_ := (Option.bind_some _ _).symm.trans H; rw [hy202]; with_reducible exact H2_) | (have H2_ := (Option.bind_some _ _).symm.trans H; with_reducible exact H2_) | with_reducible exact H | (rw [hy202]; exact H) | exact H
                have Ny202 := Aside0.mk hy202
                clear hy202
                by_cases c110 : ((rd_T39 l0_1 x17_1).f0) < ((rd_L4 y202 ((rd_T39 l0_1 x17_1).f1)).length : Int)
                ·rw [if_pos c110] at H
                 have c110b0 : decide (((rd_T39 l0_1 x17_1).f0) < ((rd_L4 y202 ((rd_T39 l0_1 x17_1).f1)).length : Int)) = true := decide_eq_true c110
                 clear c110
                 obtain ⟨y204, hy204⟩ : ∃ y_ : List Bool, y_ = ((rd_L4 y202 ((rd_T39 l0_1 x17_1).f1)).set (((rd_T39 l0_1 x17_1).f0) : Int).toNat true) := ⟨_, rfl⟩
                 replace H : (spec_ShortestRound.l0 k1 x4_1 (y202.set (((rd_T39 l0_1 x17_1).f1) : Int).toNat y204) l0_1 (l0_1.length : Int) (wrap64 (x17_1 + 1))) = some (r1, r2) := by first | (rw [hy204]; with_reducible exact H) | (have H2_ := (Option.bind_some _ _).symm.trans H; rw [hy204]; with_reducible exact H2_) | (have H2_ := (Option.bind_some _ _).symm.trans H; with_reducible exact H2_) | with_reducible exact H | (rw [hy204]; exact H) | exact H
                 have Ny204 := Aside0.mk hy204
                 clear hy204
                 obtain ⟨y206, hy206⟩ : ∃ y_ : List (List Bool), y_ = (y202.set (((rd_T39 l0_1 x17_1).f1) : Int).toNat y204) := ⟨_, rfl⟩
                 replace H : (spec_ShortestRound.l0 k1 x4_1 y206 l0_1 (l0_1.length : Int) (wrap64 (x17_1 + 1))) = some (r1, r2) := by first | (rw [hy206]; with_reducible exact H) | (have H2_ := (Option.bind_some _ _).symm.trans H; rw [hy206]; with_reducible exact H2_) | (have H2_ := (Option.bind_some _ _).symm.trans H; with_reducible exact H2_) | with_reducible exact H | (rw [hy206]; exact H) | exact H
                 have Ny206 := Aside0.mk hy206
                 clear hy206
                 have H' := Aside0.mk H
                 clear H
                 have p161 : 0 ≤ (x17_1 : Int) := oD_
                 have q161 : x17_1 < (l0_1.length : Int) := oD_
                 obtain ⟨ad161, e161, hx161_0, hx161_1⟩ := at_T39 HR0_1.out x17_1 p161 q161
                 cases e161
                 (try (replace hx161_0 := (HB.out.cell (World.block_lt_of_cell? w _ hx161_0)).trans hx161_0))
                 (try (replace hx161_1 := (HB.out.cell (World.block_lt_of_cell? w _ hx161_1)).trans hx161_1))
                 replace p161 := eq_true p161
                 replace q161 := eq_true q161
                 try go_wp2_with (first | ((with_reducible refine gate_dst (N := 7) rfl ?_); refine box_event ?hg (N := 7) ?hd (cs := #[.int .i64 0, .int .i64 0]) (t := 39) ?hr ?_; (case hd => rfl); (case hg => rfl); (case hr => first | (go_simp; done) | (go_simp; rfl)); intro gb162 hg w112 hbox hb; have n0_ := Aside0.mk (Kd.S_below (uS_ HO_5.out) hb); have n1_ := Aside0.mk (qaq (g := gb156) (o := .cells #[.int .i64 a0_0, .slice (some ad161) l0_1.length c0_1] 30 (0, 0)) (uB_ BK156.out) hb); have n2_ := Aside0.mk (qao (hB1_ GE156.out) hb); have n3_ := Aside0.mk (hbox); have n4_ := Aside0.mk ((by rw [hg]; exact (qap (hB1_ GE156.out)) : w.heap.size ≤ gb162)); have n5_ := n4_; have n6_ := Aside0.mk ((by rw [hg]; exact Nat.ne_of_lt (blk_lt (g := gb156) (o := .cells #[.int .i64 a0_0, .slice (some ad161) l0_1.length c0_1] 30 (0, 0)) (uB_ BK156.out)) : gb156 ≠ gb162)); have n7_ := Aside0.mk n6_.out.symm; clear HO_5; clear BK156; clear HB; have HO_5 := n0_; have BK156 := n1_; have HB := n2_; have BK162 := n3_; have GW162 := n4_; have GE162 := n5_; have NB156_162 := n6_; have NB162_156 := n7_; clear n0_ n1_ n2_ n3_ n4_ n5_ n6_ n7_; clear hb hbox hg; have hnb113 := NB162_156.out; have hnc113 := NB156_162.out; have hcz114_0 : w112.cell? ⟨gb162, 0, none⟩ = some (.int .i64 0) := (qaa BK162.out 0).trans rfl; have hcz114_1 : w112.cell? ⟨gb162, 1, none⟩ = some (.int .i64 0) := (qaa BK162.out 1).trans rfl; have hfz114_0 := qam BK162.out 0; have hfz114_1 := qam BK162.out 1))
                 have n0_ : Aside0 (Kd.S (Kd.slice 4 Kd.bool) 40 ((w112.setCell ⟨gb162, 0, none⟩ (.int .i64 ((rd_T39 l0_1 x17_1).f0))).setCell ⟨gb162, 1, none⟩ (.int .i64 ((rd_T39 l0_1 x17_1).f1))) w.heap.size (fun _ => True) v159 x5_1) := ⟨by (with_reducible repeat (first | apply Kd.S_alloc | apply Kd.S_drewN | apply Kd.S_drew)); exact Kd.S_mono (Kd.S_far (p := ⟨gb162, 1, none⟩) (Kd.S_far (p := ⟨gb162, 0, none⟩) (Kd.S_types HO_5.out BK162.out (by decide)) (fun _ hk => hk.2) (.int .i64 ((rd_T39 l0_1 x17_1).f0))) (fun _ hk => hk.2) (.int .i64 ((rd_T39 l0_1 x17_1).f1))) (fun _ hk => trivial)⟩
                 have n1_ : Aside0 (((w112.setCell ⟨gb162, 0, none⟩ (.int .i64 ((rd_T39 l0_1 x17_1).f0))).setCell ⟨gb162, 1, none⟩ (.int .i64 ((rd_T39 l0_1 x17_1).f1))).heap[gb156]? = some (.cells #[.int .i64 a0_0, .slice (some ad161) l0_1.length c0_1] 30 (0, 0))) := ⟨by (with_reducible repeat (first | refine qad ?_ _ | refine qab ?_ | refine qae ?_ _)); refine blk_far ?_ NB156_162.out _; (with_reducible repeat (first | refine qad ?_ _ | refine qab ?_ | refine qae ?_ _)); refine blk_far ?_ NB156_162.out _; (with_reducible repeat (first | refine qad ?_ _ | refine qab ?_ | refine qae ?_ _)); exact BK156.out⟩
                 have n2_ : Aside0 (((w112.setCell ⟨gb162, 0, none⟩ (.int .i64 ((rd_T39 l0_1 x17_1).f0))).setCell ⟨gb162, 1, none⟩ (.int .i64 ((rd_T39 l0_1 x17_1).f1))).heap[gb162]? = some (.cells #[.int .i64 ((rd_T39 l0_1 x17_1).f0), .int .i64 ((rd_T39 l0_1 x17_1).f1)] 39 (0, 0))) := ⟨by (with_reducible repeat (first | refine qad ?_ _ | refine qab ?_ | refine qae ?_ _)); refine blk_put (cs := #[.int .i64 ((rd_T39 l0_1 x17_1).f0), .int .i64 0]) ?_ 1 _ rfl; (with_reducible repeat (first | refine qad ?_ _ | refine qab ?_ | refine qae ?_ _)); refine blk_put (cs := #[.int .i64 0, .int .i64 0]) ?_ 0 _ rfl; (with_reducible repeat (first | refine qad ?_ _ | refine qab ?_ | refine qae ?_ _)); exact BK162.out⟩
                 have n3_ : Aside0 (Below w.heap.size w ((w112.setCell ⟨gb162, 0, none⟩ (.int .i64 ((rd_T39 l0_1 x17_1).f0))).setCell ⟨gb162, 1, none⟩ (.int .i64 ((rd_T39 l0_1 x17_1).f1)))) := ⟨by repeat (first | (with_reducible first | exact HB.out | apply qal | apply qac | apply qaf | refine qag ?_ GE156.out | refine qag ?_ GE162.out) | exact HB.out)⟩
                 (try clear HO_5)
                 (try clear BK156)
                 (try clear BK162)
                 (try clear HB)
                 generalize ((w112.setCell ⟨gb162, 0, none⟩ (.int .i64 ((rd_T39 l0_1 x17_1).f0))).setCell ⟨gb162, 1, none⟩ (.int .i64 ((rd_T39 l0_1 x17_1).f1))) = w115 at n0_ n1_ n2_ n3_ ⊢
                 have HO_5 := n0_
                 have BK156 := n1_
                 have BK162 := n2_
                 have HB := n3_
                 clear n0_ n1_ n2_ n3_
                 have n0_ := Aside0.mk (Kd.S_drew HO_5.out)
                 have n1_ := Aside0.mk (qab BK156.out)
                 have n2_ := Aside0.mk (qab BK162.out)
                 have n3_ := Aside0.mk (qaf HB.out)
                 clear HO_5
                 clear BK156
                 clear BK162
                 clear HB
                 have HO_5 := n0_
                 have BK156 := n1_
                 have BK162 := n2_
                 have HB := n3_
                 clear n0_ n1_ n2_ n3_
                 obtain ⟨Ao117, co117, eo117⟩ := Kd.S_slice HO_5.out
                 (first | subst eo117 | (injection eo117 with f1_ f2_ f3_; have f4_ := f1_.symm; have f5_ := f3_.symm; clear f1_ f2_ f3_; subst f4_; subst f5_))
                 have p163 : 0 ≤ (((rd_T39 l0_1 x17_1).f0) : Int) := oD_
                 have q163 : ((rd_T39 l0_1 x17_1).f0) < (x5_1.length : Int) := oD_
                 obtain ⟨ad163, A163_0, c163_0, e163, hx163_0, hl163_0, hi163_0⟩ := at_L4 (Kd.S_reads' HO_5.out).2.2 ((rd_T39 l0_1 x17_1).f0) p163 q163
                 cases e163
                 obtain ⟨ce163, hce163, hMe163, hcc163⟩ := Kd.S_get HO_5.out [] ((rd_T39 l0_1 x17_1).f0) p163 (by first | exact q163 | exact oD_ | (have e_ := (Kd.S_reads' HO_5.out).1; omega))
                 obtain ⟨ve163_0, rfl, ge163_0⟩ := hMe163
                 have hv163_0 := hcc163 0 _ rfl
                 rw [Nat.add_zero, show ((Kd.slice 4 Kd.bool)).sz = 1 from rfl, Nat.mul_one] at hv163_0
                 replace hv163_0 := Option.some.inj (hv163_0.symm.trans hx163_0)
                 rw [hv163_0] at ge163_0
                 have HL163_0 := Aside0.mk (show Kd.R Kd.bool 4 _ _ _ _ (rd_L4 x5_1 ((rd_T39 l0_1 x17_1).f0)) from ge163_0)
                 clear hv163_0 ge163_0
                 have HX163_0 := Aside0.mk hx163_0
                 clear hcc163 hce163
                 have HR163_0 := Aside0.mk hi163_0
                 have HC163_0 := Aside0.mk hl163_0
                 clear hi163_0 hl163_0
                 replace p163 := eq_true p163
                 replace q163 := eq_true q163
                 have p18 : 0 ≤ (((rd_T39 l0_1 x17_1).f1) : Int) := oD_
                 have q18 : (((rd_T39 l0_1 x17_1).f1) : Int) < (((rd_L4 x5_1 ((rd_T39 l0_1 x17_1).f0)).length : Int) : Int) := oD_
                 obtain ⟨go18, co18, eo18, gb18, gl18, cl18, HG18⟩ := Kd.R_form HL163_0.out (by omega)
                 (first | cases eo18 | (injection eo18 with ea_ en_ ec_; (first | subst ea_ | (injection ea_ with ea_; subst ea_)); subst ec_; clear en_))
                 have GB18 := Aside0.mk gb18
                 have GG18 := Aside0.mk HG18
                 clear gb18 gl18 HG18
                 obtain ⟨hx18_0, hf18_0⟩ := Kd.R_celln false HL163_0.out (((rd_T39 l0_1 x17_1).f1) : Int) p18 q18
                 replace p18 := eq_true p18
                 replace q18 := eq_true q18
                 have hq118 : (((rd_T39 l0_1 x17_1).f0) : Int) < (x5_1.length : Int) := (by have h_ : (((rd_T39 l0_1 x17_1).f0) : Int) < ((x5_1.length : Int) : Int) := oD_; first | exact h_ | (have e_ := (Kd.S_reads' HO_5.out).1; omega) | simpa only [List.length_set, List.length_set] using h_)
                 obtain ⟨oki118, ce118, hcl118, hM118, hcc118, hok118, hbk118⟩ := Kd.S_borrow HO_5.out [] (((rd_T39 l0_1 x17_1).f0) : Int) (oD_) (by first | exact hq118 | exact oD_ | (have e_ := (Kd.S_reads' HO_5.out).1; omega))
                 obtain ⟨ve118_0, rfl, ge118_0⟩ := hM118
                 have hv118 := hcc118 0 _ rfl
                 rw [Nat.add_zero, show ((Kd.slice 4 Kd.bool)).sz = 1 from rfl, Nat.mul_one] at hv118
                 replace hv118 := Option.some.inj (hv118.symm.trans HX163_0.out)
                 subst hv118
                 clear hcc118 hcl118
                 replace ge118_0 := (show Kd.R Kd.bool 4 _ _ _ _ (rd_L4 x5_1 ((rd_T39 l0_1 x17_1).f0)) from ge118_0)
                 have HP118 := Kd.R_putg ge118_0 (((rd_T39 l0_1 x17_1).f1) : Int) false
                 rw [← Ny164.out] at HP118
                 have HS118 := hbk118 HP118.2 (fun k_ e_ => by injection e_ with e_; subst e_; exact ge118_0.1 _ rfl) (x' := y164) (Kd.M_row HP118.1)
                 rw [← Ny166.out] at HS118
                 have HQ118 := Aside0.mk HS118
                 clear HP118 HS118 hbk118 hok118
                 refine start_ (n := 9) (S := fun w' => w'.cell? ⟨gb162, 0, none⟩ = some (.int .i64 ((rd_T39 l0_1 x17_1).f0)) ∧ w'.cell? ⟨gb162, 1, none⟩ = some (.int .i64 ((rd_T39 l0_1 x17_1).f1)) ∧ w'.cell? (ad163.add (((rd_T39 l0_1 x17_1).f0)).toNat) = some (.slice (some ⟨go18, 0, none⟩) (rd_L4 x5_1 ((rd_T39 l0_1 x17_1).f0)).length c163_0)) (ds := [8]) #[fF,fF,fF,fF,fF,fF,fF,fF,fF] (by kernel_rfl) rfl rfl ⟨(qaa BK162.out 0).trans rfl, (qaa BK162.out 1).trans rfl, hx163_0⟩ (fun hHeld => ?_); refine with_tabW spec_ShortestRound.tab8 spec_ShortestRound.bits8 (fun HT_ HW_ => ?_)
                 generalize w115.drew = w116 at HO_5 BK156 BK162 HB GG18 HL163_0 HQ118 HR163_0 HX163_0 hf18_0 hx163_0 hx18_0 hHeld ⊢
                 refine qan (i := 0) (N := some 21) (v := ?_) (a' := ?_) #[tT,fF,fF,fF,fF,fF,fF,fF,fF] rfl rfl (aO_ HT_.out) (fun _ _ _ h => h) (.inl ⟨by rfl, ?_⟩) ?_ ?_
                 rotate_left
                 ·intro w'
                  go_simp
                  with_reducible rfl
                 rotate_left
                 ·simp only [Act.put, sP_, qai, qaj]
                  rfl
                 refine qan (i := 1) (N := some 22) (v := ?_) (a' := ?_) #[tT,tT,fF,fF,fF,fF,fF,fF,fF] rfl rfl (aO_ HT_.out) (fun _ _ _ h => h) (.inl ⟨by rfl, ?_⟩) ?_ ?_
                 rotate_left
                 ·intro w'
                  go_simp
                  with_reducible rfl
                 rotate_left
                 ·simp only [Act.put, sP_, qai, qaj]
                  rfl
                 refine qan (i := 5) (N := some 26) (v := ?_) (a' := ?_) #[tT,tT,fF,fF,fF,tT,fF,fF,fF] rfl rfl (aO_ HT_.out) (fun _ _ _ h => h) (.inl ⟨by rfl, ?_⟩) ?_ ?_
                 rotate_left
                 ·intro w'
                  go_simp
                  with_reducible rfl
                 rotate_left
                 ·simp only [Act.put, sP_, qai, qaj]
                  rfl
                 refine take_ (i := 2) (N := some 23) (v := ?_) (a' := ?_) #[tT,tT,tT,fF,fF,tT,fF,fF,fF] rfl rfl (qar HT_.out HW_.out (by kernel_rfl)) (fun _ _ _ h => h) (Or.inl ⟨by rfl, ?_⟩) hHeld ?_ ?_
                 rotate_left
                 ·rintro w' ⟨s0, s1, s2⟩
                  go_simp
                  with_reducible rfl
                 rotate_left
                 ·simp only [Act.put, sP_, qai, qaj]
                  rfl
                 refine qan (i := 3) (N := some 24) (v := ?_) (a' := ?_) #[tT,tT,tT,tT,fF,tT,fF,fF,fF] rfl rfl (aO_ HT_.out) (fun _ _ _ h => h) (.inl ⟨by rfl, ?_⟩) ?_ ?_
                 rotate_left
                 ·intro w'
                  go_simp
                  with_reducible rfl
                 rotate_left
                 ·simp only [Act.put, sP_, qai, qaj]
                  rfl
                 refine take_ (i := 4) (N := some 25) (v := ?_) (a' := ?_) #[tT,tT,tT,tT,tT,tT,fF,fF,fF] rfl rfl (qar HT_.out HW_.out (by kernel_rfl)) (fun _ _ _ h => h) (Or.inl ⟨by rfl, ?_⟩) hHeld ?_ ?_
                 rotate_left
                 ·rintro w' ⟨s0, s1, s2⟩
                  go_simp
                  with_reducible rfl
                 rotate_left
                 ·simp only [Act.put, sP_, qai, qaj]
                  rfl
                 refine take_ (i := 6) (N := some 27) (v := ?_) (a' := ?_) #[tT,tT,tT,tT,tT,tT,tT,fF,fF] rfl rfl (qar HT_.out HW_.out (by kernel_rfl)) (fun _ _ _ h => h) (Or.inl ⟨by rfl, ?_⟩) hHeld ?_ ?_
                 rotate_left
                 ·rintro w' ⟨s0, s1, s2⟩
                  go_simp
                  with_reducible rfl
                 rotate_left
                 ·simp only [Act.put, sP_, qai, qaj]
                  rfl
                 refine qan (i := 7) (N := some 28) (v := ?_) (a' := ?_) #[tT,tT,tT,tT,tT,tT,tT,tT,fF] rfl rfl (aO_ HT_.out) (fun _ _ _ h => h) (.inl ⟨by rfl, ?_⟩) ?_ ?_
                 rotate_left
                 ·intro w'
                  go_simp
                  with_reducible rfl
                 rotate_left
                 ·simp only [Act.put, sP_, qai, qaj]
                  rfl
                 refine last_ (i := 8) (N := none) #[tT,tT,tT,tT,tT,tT,tT,tT,tT] rfl rfl (one_of HT_.out (by kernel_rfl)) (by decide) (fun K hK => ?_)
                 refine skip_ (w1 := ?_) (by rfl) rfl ?_ ?_
                 rotate_left
                 ·go_simp
                  rfl
                 refine hK.out _ _ ?_
                 clear hK K
                 refine done_ (done_of HT_.out (by kernel_rfl)) ?_
                 try go_wp2
                 have n0_ : Aside0 (Kd.S (Kd.slice 4 Kd.bool) 40 (w116.setCell ⟨go18, (((rd_T39 l0_1 x17_1).f1) : Int).toNat, none⟩ (.bool false)) w.heap.size (fun _ => True) (.slice (some ad163) x5_1.length co117) y166) := ⟨by (with_reducible repeat (first | apply Kd.S_alloc | apply Kd.S_drewN | apply Kd.S_drew)); exact HQ118.out⟩
                 have n1_ : Aside0 ((w116.setCell ⟨go18, (((rd_T39 l0_1 x17_1).f1) : Int).toNat, none⟩ (.bool false)).heap[gb156]? = some (.cells #[.int .i64 a0_0, .slice (some ad161) l0_1.length c0_1] 30 (0, 0))) := ⟨by (with_reducible repeat (first | refine qad ?_ _ | refine qab ?_ | refine qae ?_ _)); refine blk_far ?_ (by have h_ := Kd.R_ne HL163_0.out BK156.out (by decide); intro e_; exact h_ (by rw [e_]; rfl)) _; (with_reducible repeat (first | refine qad ?_ _ | refine qab ?_ | refine qae ?_ _)); exact BK156.out⟩
                 have n2_ : Aside0 ((w116.setCell ⟨go18, (((rd_T39 l0_1 x17_1).f1) : Int).toNat, none⟩ (.bool false)).heap[gb162]? = some (.cells #[.int .i64 ((rd_T39 l0_1 x17_1).f0), .int .i64 ((rd_T39 l0_1 x17_1).f1)] 39 (0, 0))) := ⟨by (with_reducible repeat (first | refine qad ?_ _ | refine qab ?_ | refine qae ?_ _)); refine blk_far ?_ (by have h_ := Kd.R_ne HL163_0.out BK162.out (by decide); intro e_; exact h_ (by rw [e_]; rfl)) _; (with_reducible repeat (first | refine qad ?_ _ | refine qab ?_ | refine qae ?_ _)); exact BK162.out⟩
                 have n3_ : Aside0 (Below w.heap.size w (w116.setCell ⟨go18, (((rd_T39 l0_1 x17_1).f1) : Int).toNat, none⟩ (.bool false))) := ⟨by repeat (first | (with_reducible first | exact HB.out | apply qal | apply qac | apply qaf | refine qag ?_ GB18.out | refine qag ?_ GE156.out | refine qag ?_ GE162.out) | exact HB.out)⟩
                 (try clear HO_5)
                 (try clear BK156)
                 (try clear BK162)
                 (try clear HB)
                 generalize (w116.setCell ⟨go18, (((rd_T39 l0_1 x17_1).f1) : Int).toNat, none⟩ (.bool false)) = w120 at n0_ n1_ n2_ n3_ ⊢
                 have HO_5 := n0_
                 have BK156 := n1_
                 have BK162 := n2_
                 have HB := n3_
                 clear n0_ n1_ n2_ n3_
                 have n0_ := Aside0.mk (Kd.S_drew HO_5.out)
                 have n1_ := Aside0.mk (qab BK156.out)
                 have n2_ := Aside0.mk (qab BK162.out)
                 have n3_ := Aside0.mk (qaf HB.out)
                 clear HO_5
                 clear BK156
                 clear BK162
                 clear HB
                 have HO_5 := n0_
                 have BK156 := n1_
                 have BK162 := n2_
                 have HB := n3_
                 clear n0_ n1_ n2_ n3_
                 have p167 : 0 ≤ (((rd_T39 l0_1 x17_1).f1) : Int) := oD_
                 have q167 : ((rd_T39 l0_1 x17_1).f1) < (y166.length : Int) := (by have h_ : (((rd_T39 l0_1 x17_1).f1) : Int) < ((x5_1.length : Int) : Int) := oD_; first | (have e_ := (Kd.S_reads' HO_5.out).1; omega) | simpa only [Ny166.out, List.length_set] using h_)
                 have ql167 : ((((rd_T39 l0_1 x17_1).f1) : Int) < ((x5_1.length : Int) : Int)) = True := eq_true (oD_)
                 obtain ⟨ad167, A167_0, c167_0, e167, hx167_0, hl167_0, hi167_0⟩ := at_L4 (Kd.S_reads' HO_5.out).2.2 ((rd_T39 l0_1 x17_1).f1) p167 q167
                 obtain rfl : ad163 = ad167 := (by injection e167)
                 obtain ⟨ce167, hce167, hMe167, hcc167⟩ := Kd.S_get HO_5.out [] ((rd_T39 l0_1 x17_1).f1) p167 (by first | exact q167 | exact oD_ | (have e_ := (Kd.S_reads' HO_5.out).1; omega))
                 obtain ⟨ve167_0, rfl, ge167_0⟩ := hMe167
                 have hv167_0 := hcc167 0 _ rfl
                 rw [Nat.add_zero, show ((Kd.slice 4 Kd.bool)).sz = 1 from rfl, Nat.mul_one] at hv167_0
                 replace hv167_0 := Option.some.inj (hv167_0.symm.trans hx167_0)
                 rw [hv167_0] at ge167_0
                 have HL167_0 := Aside0.mk (show Kd.R Kd.bool 4 _ _ _ _ (rd_L4 y166 ((rd_T39 l0_1 x17_1).f1)) from ge167_0)
                 clear hv167_0 ge167_0
                 have HX167_0 := Aside0.mk hx167_0
                 clear hcc167 hce167
                 have HR167_0 := Aside0.mk hi167_0
                 have HC167_0 := Aside0.mk hl167_0
                 clear hi167_0 hl167_0
                 replace p167 := eq_true p167
                 replace q167 := eq_true q167
                 have p21 : 0 ≤ (((rd_T39 l0_1 x17_1).f0) : Int) := oD_
                 have q21 : (((rd_T39 l0_1 x17_1).f0) : Int) < (((rd_L4 y166 ((rd_T39 l0_1 x17_1).f1)).length : Int) : Int) := oD_
                 obtain ⟨go21, co21, eo21, gb21, gl21, cl21, HG21⟩ := Kd.R_form HL167_0.out (by omega)
                 (first | cases eo21 | (injection eo21 with ea_ en_ ec_; (first | subst ea_ | (injection ea_ with ea_; subst ea_)); subst ec_; clear en_))
                 have GB21 := Aside0.mk gb21
                 have GG21 := Aside0.mk HG21
                 clear gb21 gl21 HG21
                 obtain ⟨hx21_0, hf21_0⟩ := Kd.R_celln false HL167_0.out (((rd_T39 l0_1 x17_1).f0) : Int) p21 q21
                 replace p21 := eq_true p21
                 replace q21 := eq_true q21
                 have hq122 : (((rd_T39 l0_1 x17_1).f1) : Int) < (y166.length : Int) := (by have h_ : (((rd_T39 l0_1 x17_1).f1) : Int) < ((x5_1.length : Int) : Int) := oD_; first | exact h_ | (have e_ := (Kd.S_reads' HO_5.out).1; omega) | simpa only [Ny166.out, List.length_set] using h_)
                 obtain ⟨oki122, ce122, hcl122, hM122, hcc122, hok122, hbk122⟩ := Kd.S_borrow HO_5.out [] (((rd_T39 l0_1 x17_1).f1) : Int) (oD_) (by first | exact hq122 | exact oD_ | (have e_ := (Kd.S_reads' HO_5.out).1; omega))
                 obtain ⟨ve122_0, rfl, ge122_0⟩ := hM122
                 have hv122 := hcc122 0 _ rfl
                 rw [Nat.add_zero, show ((Kd.slice 4 Kd.bool)).sz = 1 from rfl, Nat.mul_one] at hv122
                 replace hv122 := Option.some.inj (hv122.symm.trans HX167_0.out)
                 subst hv122
                 clear hcc122 hcl122
                 replace ge122_0 := (show Kd.R Kd.bool 4 _ _ _ _ (rd_L4 y166 ((rd_T39 l0_1 x17_1).f1)) from ge122_0)
                 have HP122 := Kd.R_putg ge122_0 (((rd_T39 l0_1 x17_1).f0) : Int) false
                 rw [← Ny168.out] at HP122
                 have HS122 := hbk122 HP122.2 (fun k_ e_ => by injection e_ with e_; subst e_; exact ge122_0.1 _ rfl) (x' := y168) (Kd.M_row HP122.1)
                 rw [← Ny170.out] at HS122
                 have HQ122 := Aside0.mk HS122
                 clear HP122 HS122 hbk122 hok122
                 refine start_ (n := 9) (S := fun w' => w'.cell? ⟨gb162, 0, none⟩ = some (.int .i64 ((rd_T39 l0_1 x17_1).f0)) ∧ w'.cell? ⟨gb162, 1, none⟩ = some (.int .i64 ((rd_T39 l0_1 x17_1).f1)) ∧ w'.cell? (ad163.add (((rd_T39 l0_1 x17_1).f1)).toNat) = some (.slice (some ⟨go21, 0, none⟩) (rd_L4 y166 ((rd_T39 l0_1 x17_1).f1)).length c167_0)) (ds := [8]) #[fF,fF,fF,fF,fF,fF,fF,fF,fF] (by kernel_rfl) rfl rfl ⟨(qaa BK162.out 0).trans rfl, (qaa BK162.out 1).trans rfl, hx167_0⟩ (fun hHeld => ?_); refine with_tabW spec_ShortestRound.tab9 spec_ShortestRound.bits9 (fun HT_ HW_ => ?_)
                 generalize w120.drew = w121 at HO_5 BK156 BK162 HB GG21 HL167_0 HQ118 HQ122 HR167_0 HX167_0 hf21_0 hx167_0 hx21_0 hHeld ⊢
                 refine qan (i := 0) (N := some 29) (v := ?_) (a' := ?_) #[tT,fF,fF,fF,fF,fF,fF,fF,fF] rfl rfl (aO_ HT_.out) (fun _ _ _ h => h) (.inl ⟨by rfl, ?_⟩) ?_ ?_
                 rotate_left
                 ·intro w'
                  go_simp
                  with_reducible rfl
                 rotate_left
                 ·simp only [Act.put, sP_, qai, qaj]
                  rfl
                 refine qan (i := 1) (N := some 30) (v := ?_) (a' := ?_) #[tT,tT,fF,fF,fF,fF,fF,fF,fF] rfl rfl (aO_ HT_.out) (fun _ _ _ h => h) (.inl ⟨by rfl, ?_⟩) ?_ ?_
                 rotate_left
                 ·intro w'
                  go_simp
                  with_reducible rfl
                 rotate_left
                 ·simp only [Act.put, sP_, qai, qaj]
                  rfl
                 refine qan (i := 5) (N := some 34) (v := ?_) (a' := ?_) #[tT,tT,fF,fF,fF,tT,fF,fF,fF] rfl rfl (aO_ HT_.out) (fun _ _ _ h => h) (.inl ⟨by rfl, ?_⟩) ?_ ?_
                 rotate_left
                 ·intro w'
                  go_simp
                  with_reducible rfl
                 rotate_left
                 ·simp only [Act.put, sP_, qai, qaj]
                  rfl
                 refine take_ (i := 2) (N := some 31) (v := ?_) (a' := ?_) #[tT,tT,tT,fF,fF,tT,fF,fF,fF] rfl rfl (qar HT_.out HW_.out (by kernel_rfl)) (fun _ _ _ h => h) (Or.inl ⟨by rfl, ?_⟩) hHeld ?_ ?_
                 rotate_left
                 ·rintro w' ⟨s0, s1, s2⟩
                  go_simp
                  with_reducible rfl
                 rotate_left
                 ·simp only [Act.put, sP_, qai, qaj]
                  rfl
                 refine qan (i := 3) (N := some 32) (v := ?_) (a' := ?_) #[tT,tT,tT,tT,fF,tT,fF,fF,fF] rfl rfl (aO_ HT_.out) (fun _ _ _ h => h) (.inl ⟨by rfl, ?_⟩) ?_ ?_
                 rotate_left
                 ·intro w'
                  go_simp
                  with_reducible rfl
                 rotate_left
                 ·simp only [Act.put, sP_, qai, qaj]
                  rfl
                 refine take_ (i := 4) (N := some 33) (v := ?_) (a' := ?_) #[tT,tT,tT,tT,tT,tT,fF,fF,fF] rfl rfl (qar HT_.out HW_.out (by kernel_rfl)) (fun _ _ _ h => h) (Or.inl ⟨by rfl, ?_⟩) hHeld ?_ ?_
                 rotate_left
                 ·rintro w' ⟨s0, s1, s2⟩
                  go_simp
                  with_reducible rfl
                 rotate_left
                 ·simp only [Act.put, sP_, qai, qaj]
                  rfl
                 refine take_ (i := 6) (N := some 35) (v := ?_) (a' := ?_) #[tT,tT,tT,tT,tT,tT,tT,fF,fF] rfl rfl (qar HT_.out HW_.out (by kernel_rfl)) (fun _ _ _ h => h) (Or.inl ⟨by rfl, ?_⟩) hHeld ?_ ?_
                 rotate_left
                 ·rintro w' ⟨s0, s1, s2⟩
                  go_simp
                  with_reducible rfl
                 rotate_left
                 ·simp only [Act.put, sP_, qai, qaj]
                  rfl
                 refine qan (i := 7) (N := some 36) (v := ?_) (a' := ?_) #[tT,tT,tT,tT,tT,tT,tT,tT,fF] rfl rfl (aO_ HT_.out) (fun _ _ _ h => h) (.inl ⟨by rfl, ?_⟩) ?_ ?_
                 rotate_left
                 ·intro w'
                  go_simp
                  with_reducible rfl
                 rotate_left
                 ·simp only [Act.put, sP_, qai, qaj]
                  rfl
                 refine last_ (i := 8) (N := none) #[tT,tT,tT,tT,tT,tT,tT,tT,tT] rfl rfl (one_of HT_.out (by kernel_rfl)) (by decide) (fun K hK => ?_)
                 refine skip_ (w1 := ?_) (by rfl) rfl ?_ ?_
                 rotate_left
                 ·go_simp
                  rfl
                 refine hK.out _ _ ?_
                 clear hK K
                 refine done_ (done_of HT_.out (by kernel_rfl)) ?_
                 try go_wp2
                 have n0_ : Aside0 (Kd.S (Kd.slice 4 Kd.bool) 40 (w121.setCell ⟨go21, (((rd_T39 l0_1 x17_1).f0) : Int).toNat, none⟩ (.bool false)) w.heap.size (fun _ => True) (.slice (some ad163) x5_1.length co117) y170) := ⟨by (with_reducible repeat (first | apply Kd.S_alloc | apply Kd.S_drewN | apply Kd.S_drew)); exact HQ122.out⟩
                 have n1_ : Aside0 ((w121.setCell ⟨go21, (((rd_T39 l0_1 x17_1).f0) : Int).toNat, none⟩ (.bool false)).heap[gb156]? = some (.cells #[.int .i64 a0_0, .slice (some ad161) l0_1.length c0_1] 30 (0, 0))) := ⟨by (with_reducible repeat (first | refine qad ?_ _ | refine qab ?_ | refine qae ?_ _)); refine blk_far ?_ (by have h_ := Kd.R_ne HL167_0.out BK156.out (by decide); intro e_; exact h_ (by rw [e_]; rfl)) _; (with_reducible repeat (first | refine qad ?_ _ | refine qab ?_ | refine qae ?_ _)); exact BK156.out⟩
                 have n2_ : Aside0 ((w121.setCell ⟨go21, (((rd_T39 l0_1 x17_1).f0) : Int).toNat, none⟩ (.bool false)).heap[gb162]? = some (.cells #[.int .i64 ((rd_T39 l0_1 x17_1).f0), .int .i64 ((rd_T39 l0_1 x17_1).f1)] 39 (0, 0))) := ⟨by (with_reducible repeat (first | refine qad ?_ _ | refine qab ?_ | refine qae ?_ _)); refine blk_far ?_ (by have h_ := Kd.R_ne HL167_0.out BK162.out (by decide); intro e_; exact h_ (by rw [e_]; rfl)) _; (with_reducible repeat (first | refine qad ?_ _ | refine qab ?_ | refine qae ?_ _)); exact BK162.out⟩
                 have n3_ : Aside0 (Below w.heap.size w (w121.setCell ⟨go21, (((rd_T39 l0_1 x17_1).f0) : Int).toNat, none⟩ (.bool false))) := ⟨by repeat (first | (with_reducible first | exact HB.out | apply qal | apply qac | apply qaf | refine qag ?_ GB21.out | refine qag ?_ GE156.out | refine qag ?_ GE162.out) | exact HB.out)⟩
                 (try clear HO_5)
                 (try clear BK156)
                 (try clear BK162)
                 (try clear HB)
                 generalize (w121.setCell ⟨go21, (((rd_T39 l0_1 x17_1).f0) : Int).toNat, none⟩ (.bool false)) = w124 at n0_ n1_ n2_ n3_ ⊢
                 have HO_5 := n0_
                 have BK156 := n1_
                 have BK162 := n2_
                 have HB := n3_
                 clear n0_ n1_ n2_ n3_
                 have n0_ := Aside0.mk (Kd.S_drew HO_5.out)
                 have n1_ := Aside0.mk (qab BK156.out)
                 have n2_ := Aside0.mk (qab BK162.out)
                 have n3_ := Aside0.mk (qaf HB.out)
                 clear HO_5
                 clear BK156
                 clear BK162
                 clear HB
                 have HO_5 := n0_
                 have BK156 := n1_
                 have BK162 := n2_
                 have HB := n3_
                 clear n0_ n1_ n2_ n3_
                 refine start_ (n := 9) (S := fun w' => w'.cell? ⟨gb162, 0, none⟩ = some (.int .i64 ((rd_T39 l0_1 x17_1).f0)) ∧ w'.cell? ⟨gb162, 1, none⟩ = some (.int .i64 ((rd_T39 l0_1 x17_1).f1))) (ds := []) #[fF,fF,fF,fF,fF,fF,fF,fF,fF] (by kernel_rfl) rfl rfl ⟨(qaa BK162.out 0).trans rfl, (qaa BK162.out 1).trans rfl⟩ (fun hHeld => ?_); refine with_tabW spec_ShortestRound.tab10 spec_ShortestRound.bits10 (fun HT_ HW_ => ?_)
                 generalize w124.drew = w125 at HO_5 BK156 BK162 HB HQ122 hHeld ⊢
                 refine qan (i := 0) (N := some 37) (v := ?_) (a' := ?_) #[tT,fF,fF,fF,fF,fF,fF,fF,fF] rfl rfl (aO_ HT_.out) (fun _ _ _ h => h) (.inl ⟨by rfl, ?_⟩) ?_ ?_
                 rotate_left
                 ·intro w'
                  go_simp
                  with_reducible rfl
                 rotate_left
                 ·simp only [Act.put, sP_, qai, qaj]
                  rfl
                 refine qan (i := 1) (N := some 38) (v := ?_) (a' := ?_) #[tT,tT,fF,fF,fF,fF,fF,fF,fF] rfl rfl (aO_ HT_.out) (fun _ _ _ h => h) (.inl ⟨by rfl, ?_⟩) ?_ ?_
                 rotate_left
                 ·intro w'
                  go_simp
                  with_reducible rfl
                 rotate_left
                 ·simp only [Act.put, sP_, qai, qaj]
                  rfl
                 refine qan (i := 4) (N := some 41) (v := ?_) (a' := ?_) #[tT,tT,fF,fF,tT,fF,fF,fF,fF] rfl rfl (aO_ HT_.out) (fun _ _ _ h => h) (.inl ⟨by rfl, ?_⟩) ?_ ?_
                 rotate_left
                 ·intro w'
                  go_simp
                  with_reducible rfl
                 rotate_left
                 ·simp only [Act.put, sP_, qai, qaj]
                  rfl
                 refine take_ (i := 2) (N := some 39) (v := ?_) (a' := ?_) #[tT,tT,tT,fF,tT,fF,fF,fF,fF] rfl rfl (qar HT_.out HW_.out (by kernel_rfl)) (fun _ _ _ h => h) (Or.inl ⟨by rfl, ?_⟩) hHeld ?_ ?_
                 rotate_left
                 ·rintro w' ⟨s0, s1⟩
                  go_simp
                  with_reducible rfl
                 rotate_left
                 ·simp only [Act.put, sP_, qai, qaj]
                  rfl
                 refine take_ (i := 5) (N := some 42) (v := ?_) (a' := ?_) #[tT,tT,tT,fF,tT,tT,fF,fF,fF] rfl rfl (qar HT_.out HW_.out (by kernel_rfl)) (fun _ _ _ h => h) (Or.inl ⟨by rfl, ?_⟩) hHeld ?_ ?_
                 rotate_left
                 ·rintro w' ⟨s0, s1⟩
                  go_simp
                  with_reducible rfl
                 rotate_left
                 ·simp only [Act.put, sP_, qai, qaj]
                  rfl
                 refine one_ (i := 3) (N := some 40) #[tT,tT,tT,tT,tT,tT,fF,fF,fF] rfl rfl (one_of HT_.out (by kernel_rfl)) (by decide) (fun K hK => ?_)
                 refine goes_ Tryd.func12 (by kernel_rfl) rfl #[.slice (some ad163) y170.length co117, .int .i64 ((rd_T39 l0_1 x17_1).f0)] (by rfl) rfl rfl (by (try simp only [List.map_toArray, List.map_cons, List.map_nil]); first | done | (rw [show y170.length = x5_1.length from (Kd.S_reads' HO_5.out).1.symm] <;> rfl) | rfl | (simp only [List.length_drop, List.length_take]; rfl)) ?_
                 with_reducible refine (spec_cfDistances.calls k1 _ _ y170 ((rd_T39 l0_1 x17_1).f0) t171 _ ?side1 ?side2 A22.out).mono ?_
                 (case side1 => repeat (first | exact (Kd.S_reads' HO_5.out).2.2 | (with_reducible refine Kd.C_alloc ?_ _) | (with_reducible refine Kd.C_drewN ?_ _) | (with_reducible refine Kd.C_drew ?_)))
                 (case side2 => rw [show y170.length = x5_1.length from (Kd.S_reads' HO_5.out).1.symm]; exact (Kd.S_reads' HO_5.out).2.1)
                 rintro e w126 ⟨v172, rfl, ho0, hb⟩
                 refine ⟨_, rfl, ?_⟩
                 have n0_ := Aside0.mk (Kd.S_below (uS_ HO_5.out) hb)
                 have n1_ := Aside0.mk (Kd.R_lower ho0 (qap (hB2_ GE156.out GE162.out)))
                 have n2_ := Aside0.mk (qaq (g := gb156) (o := .cells #[.int .i64 a0_0, .slice (some ad161) l0_1.length c0_1] 30 (0, 0)) (uB_ BK156.out) hb)
                 have n3_ := Aside0.mk (qaq (g := gb162) (o := .cells #[.int .i64 ((rd_T39 l0_1 x17_1).f0), .int .i64 ((rd_T39 l0_1 x17_1).f1)] 39 (0, 0)) (uB_ BK162.out) hb)
                 have n4_ := Aside0.mk (qao (hB2_ GE156.out GE162.out) hb)
                 clear HO_5
                 clear BK156
                 clear BK162
                 clear HB
                 have HO_5 := n0_
                 have HO173 := n1_
                 have BK156 := n2_
                 have BK162 := n3_
                 have HB := n4_
                 clear n0_ n1_ n2_ n3_ n4_
                 (try clear hb)
                 (try clear hb2)
                 (try clear hk)
                 (try clear hi)
                 (try clear ho0)
                 obtain ⟨Ao127, co127, eo127⟩ := Kd.R_slice HO173.out
                 (first | subst eo127 | (injection eo127 with f1_ f2_ f3_; have f4_ := f1_.symm; have f5_ := f3_.symm; clear f1_ f2_ f3_; subst f4_; subst f5_))
                 have p174 : 0 ≤ (((rd_T39 l0_1 x17_1).f1) : Int) := oD_
                 have q174 : ((rd_T39 l0_1 x17_1).f1) < (t171.length : Int) := oD_
                 obtain ⟨ad174, e174, hx174_0⟩ := Kd.at_int (Kd.R_reads' HO173.out).2.2 ((rd_T39 l0_1 x17_1).f1) p174 q174
                 cases e174
                 replace p174 := eq_true p174
                 replace q174 := eq_true q174
                 refine hK.out _ _ ⟨(qaa BK162.out 0).trans rfl, (qaa BK162.out 1).trans rfl⟩ (fun hHeld => ?_)
                 clear hK K
                 refine norm_ (a' := ?_) ?_ ?_
                 rotate_left
                 ·show Act.put _ (some 40) _ = _
                  simp only [Act.put, sP_, qai, qaj]
                  rfl
                 refine qan (i := 6) (N := some 43) (v := ?_) (a' := ?_) #[tT,tT,tT,tT,tT,tT,tT,fF,fF] rfl rfl (aO_ HT_.out) (fun _ _ _ h => h) (.inl ⟨by rfl, ?_⟩) ?_ ?_
                 rotate_left
                 ·intro w'
                  go_simp
                  with_reducible rfl
                 rotate_left
                 ·simp only [Act.put, sP_, qai, qaj]
                  rfl
                 refine one_ (i := 7) (N := some 44) #[tT,tT,tT,tT,tT,tT,tT,tT,fF] rfl rfl (one_of HT_.out (by kernel_rfl)) (by decide) (fun K hK => ?_)
                 refine event_step (v := .int .i64 (rd t171 ((rd_T39 l0_1 x17_1).f1))) (by rfl) (by go_simp; with_reducible rfl) ?_
                 refine hK.out _ _ hHeld (fun hHeld => ?_)
                 clear hK K
                 refine norm_ (a' := ?_) ?_ ?_
                 rotate_left
                 ·show Act.put _ (some 44) _ = _
                  simp only [Act.put, sP_, qai, qaj]
                  rfl
                 refine qan (i := 8) (N := some 8) (v := ?_) (a' := ?_) #[tT,tT,tT,tT,tT,tT,tT,tT,tT] rfl rfl (aO_ HT_.out) (fun _ _ _ h => h) (.inl ⟨by rfl, ?_⟩) ?_ ?_
                 rotate_left
                 ·intro w'
                  go_simp
                  with_reducible rfl
                 rotate_left
                 ·simp only [Act.put, sP_, qai, qaj]
                  rfl
                 refine done_ (done_of HT_.out (by kernel_rfl)) ?_
                 try go_wp2
                 have n0_ := Aside0.mk (Kd.S_drew HO_5.out)
                 have n1_ := Aside0.mk (Kd.R_drew HO173.out)
                 have n2_ := Aside0.mk (qab BK156.out)
                 have n3_ := Aside0.mk (qab BK162.out)
                 have n4_ := Aside0.mk (qaf HB.out)
                 clear HO_5
                 clear HO173
                 clear BK156
                 clear BK162
                 clear HB
                 have HO_5 := n0_
                 have HO173 := n1_
                 have BK156 := n2_
                 have BK162 := n3_
                 have HB := n4_
                 clear n0_ n1_ n2_ n3_ n4_
                 have p199 : 0 ≤ (((rd_T39 l0_1 x17_1).f0) : Int) := oD_
                 have q199 : ((rd_T39 l0_1 x17_1).f0) < (y170.length : Int) := (by have h_ : (((rd_T39 l0_1 x17_1).f0) : Int) < ((x5_1.length : Int) : Int) := oD_; first | (have e_ := (Kd.S_reads' HO_5.out).1; omega) | simpa only [Ny166.out, Ny170.out, List.length_set] using h_)
                 have ql199 : ((((rd_T39 l0_1 x17_1).f0) : Int) < ((x5_1.length : Int) : Int)) = True := eq_true (oD_)
                 obtain ⟨ad199, A199_0, c199_0, e199, hx199_0, hl199_0, hi199_0⟩ := at_L4 (Kd.S_reads' HO_5.out).2.2 ((rd_T39 l0_1 x17_1).f0) p199 q199
                 obtain rfl : ad163 = ad199 := (by injection e199)
                 obtain ⟨ce199, hce199, hMe199, hcc199⟩ := Kd.S_get HO_5.out [] ((rd_T39 l0_1 x17_1).f0) p199 (by first | exact q199 | exact oD_ | (have e_ := (Kd.S_reads' HO_5.out).1; omega))
                 obtain ⟨ve199_0, rfl, ge199_0⟩ := hMe199
                 have hv199_0 := hcc199 0 _ rfl
                 rw [Nat.add_zero, show ((Kd.slice 4 Kd.bool)).sz = 1 from rfl, Nat.mul_one] at hv199_0
                 replace hv199_0 := Option.some.inj (hv199_0.symm.trans hx199_0)
                 rw [hv199_0] at ge199_0
                 have HL199_0 := Aside0.mk (show Kd.R Kd.bool 4 _ _ _ _ (rd_L4 y170 ((rd_T39 l0_1 x17_1).f0)) from ge199_0)
                 clear hv199_0 ge199_0
                 have HX199_0 := Aside0.mk hx199_0
                 clear hcc199 hce199
                 have HR199_0 := Aside0.mk hi199_0
                 have HC199_0 := Aside0.mk hl199_0
                 clear hi199_0 hl199_0
                 replace p199 := eq_true p199
                 replace q199 := eq_true q199
                 have p109 : 0 ≤ (((rd_T39 l0_1 x17_1).f1) : Int) := oD_
                 have q109 : (((rd_T39 l0_1 x17_1).f1) : Int) < (((rd_L4 y170 ((rd_T39 l0_1 x17_1).f0)).length : Int) : Int) := oD_
                 obtain ⟨go109, co109, eo109, gb109, gl109, cl109, HG109⟩ := Kd.R_form HL199_0.out (by omega)
                 (first | cases eo109 | (injection eo109 with ea_ en_ ec_; (first | subst ea_ | (injection ea_ with ea_; subst ea_)); subst ec_; clear en_))
                 have GB109 := Aside0.mk gb109
                 have GG109 := Aside0.mk HG109
                 clear gb109 gl109 HG109
                 obtain ⟨hx109_0, hf109_0⟩ := Kd.R_celln false HL199_0.out (((rd_T39 l0_1 x17_1).f1) : Int) p109 q109
                 replace p109 := eq_true p109
                 replace q109 := eq_true q109
                 have hq129 : (((rd_T39 l0_1 x17_1).f0) : Int) < (y170.length : Int) := (by have h_ : (((rd_T39 l0_1 x17_1).f0) : Int) < ((x5_1.length : Int) : Int) := oD_; first | exact h_ | (have e_ := (Kd.S_reads' HO_5.out).1; omega) | simpa only [Ny166.out, Ny170.out, List.length_set] using h_)
                 obtain ⟨oki129, ce129, hcl129, hM129, hcc129, hok129, hbk129⟩ := Kd.S_borrow HO_5.out [] (((rd_T39 l0_1 x17_1).f0) : Int) (oD_) (by first | exact hq129 | exact oD_ | (have e_ := (Kd.S_reads' HO_5.out).1; omega))
                 obtain ⟨ve129_0, rfl, ge129_0⟩ := hM129
                 have hv129 := hcc129 0 _ rfl
                 rw [Nat.add_zero, show ((Kd.slice 4 Kd.bool)).sz = 1 from rfl, Nat.mul_one] at hv129
                 replace hv129 := Option.some.inj (hv129.symm.trans HX199_0.out)
                 subst hv129
                 clear hcc129 hcl129
                 replace ge129_0 := (show Kd.R Kd.bool 4 _ _ _ _ (rd_L4 y170 ((rd_T39 l0_1 x17_1).f0)) from ge129_0)
                 have HP129 := Kd.R_putg ge129_0 (((rd_T39 l0_1 x17_1).f1) : Int) true
                 rw [← Ny200.out] at HP129
                 have HS129 := hbk129 HP129.2 (fun k_ e_ => by injection e_ with e_; subst e_; exact ge129_0.1 _ rfl) (x' := y200) (Kd.M_row HP129.1)
                 rw [← Ny202.out] at HS129
                 have HQ129 := Aside0.mk HS129
                 clear HP129 HS129 hbk129 hok129
                 refine start_ (n := 9) (S := fun w' => w'.cell? ⟨gb162, 0, none⟩ = some (.int .i64 ((rd_T39 l0_1 x17_1).f0)) ∧ w'.cell? ⟨gb162, 1, none⟩ = some (.int .i64 ((rd_T39 l0_1 x17_1).f1)) ∧ w'.cell? (ad163.add (((rd_T39 l0_1 x17_1).f0)).toNat) = some (.slice (some ⟨go109, 0, none⟩) (rd_L4 y170 ((rd_T39 l0_1 x17_1).f0)).length c199_0)) (ds := [8]) #[fF,fF,fF,fF,fF,fF,fF,fF,fF] (by kernel_rfl) rfl rfl ⟨(qaa BK162.out 0).trans rfl, (qaa BK162.out 1).trans rfl, hx199_0⟩ (fun hHeld => ?_); refine with_tabW spec_ShortestRound.tab13 spec_ShortestRound.bits13 (fun HT_ HW_ => ?_)
                 generalize w126.drew = w128 at HO_5 HO173 BK156 BK162 HB GG109 HL199_0 HQ129 HR199_0 HX199_0 hf109_0 hx109_0 hx199_0 hHeld ⊢
                 refine qan (i := 0) (N := some 59) (v := ?_) (a' := ?_) #[tT,fF,fF,fF,fF,fF,fF,fF,fF] rfl rfl (aO_ HT_.out) (fun _ _ _ h => h) (.inl ⟨by rfl, ?_⟩) ?_ ?_
                 rotate_left
                 ·intro w'
                  go_simp
                  with_reducible rfl
                 rotate_left
                 ·simp only [Act.put, sP_, qai, qaj]
                  rfl
                 refine qan (i := 1) (N := some 60) (v := ?_) (a' := ?_) #[tT,tT,fF,fF,fF,fF,fF,fF,fF] rfl rfl (aO_ HT_.out) (fun _ _ _ h => h) (.inl ⟨by rfl, ?_⟩) ?_ ?_
                 rotate_left
                 ·intro w'
                  go_simp
                  with_reducible rfl
                 rotate_left
                 ·simp only [Act.put, sP_, qai, qaj]
                  rfl
                 refine qan (i := 5) (N := some 64) (v := ?_) (a' := ?_) #[tT,tT,fF,fF,fF,tT,fF,fF,fF] rfl rfl (aO_ HT_.out) (fun _ _ _ h => h) (.inl ⟨by rfl, ?_⟩) ?_ ?_
                 rotate_left
                 ·intro w'
                  go_simp
                  with_reducible rfl
                 rotate_left
                 ·simp only [Act.put, sP_, qai, qaj]
                  rfl
                 refine take_ (i := 2) (N := some 61) (v := ?_) (a' := ?_) #[tT,tT,tT,fF,fF,tT,fF,fF,fF] rfl rfl (qar HT_.out HW_.out (by kernel_rfl)) (fun _ _ _ h => h) (Or.inl ⟨by rfl, ?_⟩) hHeld ?_ ?_
                 rotate_left
                 ·rintro w' ⟨s0, s1, s2⟩
                  go_simp
                  with_reducible rfl
                 rotate_left
                 ·simp only [Act.put, sP_, qai, qaj]
                  rfl
                 refine qan (i := 3) (N := some 62) (v := ?_) (a' := ?_) #[tT,tT,tT,tT,fF,tT,fF,fF,fF] rfl rfl (aO_ HT_.out) (fun _ _ _ h => h) (.inl ⟨by rfl, ?_⟩) ?_ ?_
                 rotate_left
                 ·intro w'
                  go_simp
                  with_reducible rfl
                 rotate_left
                 ·simp only [Act.put, sP_, qai, qaj]
                  rfl
                 refine take_ (i := 4) (N := some 63) (v := ?_) (a' := ?_) #[tT,tT,tT,tT,tT,tT,fF,fF,fF] rfl rfl (qar HT_.out HW_.out (by kernel_rfl)) (fun _ _ _ h => h) (Or.inl ⟨by rfl, ?_⟩) hHeld ?_ ?_
                 rotate_left
                 ·rintro w' ⟨s0, s1, s2⟩
                  go_simp
                  with_reducible rfl
                 rotate_left
                 ·simp only [Act.put, sP_, qai, qaj]
                  rfl
                 refine take_ (i := 6) (N := some 65) (v := ?_) (a' := ?_) #[tT,tT,tT,tT,tT,tT,tT,fF,fF] rfl rfl (qar HT_.out HW_.out (by kernel_rfl)) (fun _ _ _ h => h) (Or.inl ⟨by rfl, ?_⟩) hHeld ?_ ?_
                 rotate_left
                 ·rintro w' ⟨s0, s1, s2⟩
                  go_simp
                  with_reducible rfl
                 rotate_left
                 ·simp only [Act.put, sP_, qai, qaj]
                  rfl
                 refine qan (i := 7) (N := some 66) (v := ?_) (a' := ?_) #[tT,tT,tT,tT,tT,tT,tT,tT,fF] rfl rfl (aO_ HT_.out) (fun _ _ _ h => h) (.inl ⟨by rfl, ?_⟩) ?_ ?_
                 rotate_left
                 ·intro w'
                  go_simp
                  with_reducible rfl
                 rotate_left
                 ·simp only [Act.put, sP_, qai, qaj]
                  rfl
                 refine last_ (i := 8) (N := none) #[tT,tT,tT,tT,tT,tT,tT,tT,tT] rfl rfl (one_of HT_.out (by kernel_rfl)) (by decide) (fun K hK => ?_)
                 refine skip_ (w1 := ?_) (by rfl) rfl ?_ ?_
                 rotate_left
                 ·go_simp
                  rfl
                 refine hK.out _ _ ?_
                 clear hK K
                 refine done_ (done_of HT_.out (by kernel_rfl)) ?_
                 try go_wp2
                 have n0_ : Aside0 (Kd.S (Kd.slice 4 Kd.bool) 40 (w128.setCell ⟨go109, (((rd_T39 l0_1 x17_1).f1) : Int).toNat, none⟩ (.bool true)) w.heap.size (fun _ => True) (.slice (some ad163) x5_1.length co117) y202) := ⟨by (with_reducible repeat (first | apply Kd.S_alloc | apply Kd.S_drewN | apply Kd.S_drew)); exact HQ129.out⟩
                 have n1_ : Aside0 (Kd.R (Kd.int .i64) 3 (w128.setCell ⟨go109, (((rd_T39 l0_1 x17_1).f1) : Int).toNat, none⟩ (.bool true)) w.heap.size (fun _ => True) (.slice (some ad174) t171.length co127) t171) := ⟨by (with_reducible repeat (first | apply Kd.R_alloc | apply Kd.R_drewN | apply Kd.R_drew)); exact Kd.R_mono (Kd.R_far (p := ⟨go109, (((rd_T39 l0_1 x17_1).f1) : Int).toNat, none⟩) (Kd.R_types HO173.out GG109.out (by decide)) (fun _ hk => hk.2) (.bool true)) (fun _ hk => trivial)⟩
                 have n2_ : Aside0 ((w128.setCell ⟨go109, (((rd_T39 l0_1 x17_1).f1) : Int).toNat, none⟩ (.bool true)).heap[gb156]? = some (.cells #[.int .i64 a0_0, .slice (some ad161) l0_1.length c0_1] 30 (0, 0))) := ⟨by (with_reducible repeat (first | refine qad ?_ _ | refine qab ?_ | refine qae ?_ _)); refine blk_far ?_ (by have h_ := Kd.R_ne HL199_0.out BK156.out (by decide); intro e_; exact h_ (by rw [e_]; rfl)) _; (with_reducible repeat (first | refine qad ?_ _ | refine qab ?_ | refine qae ?_ _)); exact BK156.out⟩
                 have n3_ : Aside0 ((w128.setCell ⟨go109, (((rd_T39 l0_1 x17_1).f1) : Int).toNat, none⟩ (.bool true)).heap[gb162]? = some (.cells #[.int .i64 ((rd_T39 l0_1 x17_1).f0), .int .i64 ((rd_T39 l0_1 x17_1).f1)] 39 (0, 0))) := ⟨by (with_reducible repeat (first | refine qad ?_ _ | refine qab ?_ | refine qae ?_ _)); refine blk_far ?_ (by have h_ := Kd.R_ne HL199_0.out BK162.out (by decide); intro e_; exact h_ (by rw [e_]; rfl)) _; (with_reducible repeat (first | refine qad ?_ _ | refine qab ?_ | refine qae ?_ _)); exact BK162.out⟩
                 have n4_ : Aside0 (Below w.heap.size w (w128.setCell ⟨go109, (((rd_T39 l0_1 x17_1).f1) : Int).toNat, none⟩ (.bool true))) := ⟨by repeat (first | (with_reducible first | exact HB.out | apply qal | apply qac | apply qaf | refine qag ?_ GB109.out | refine qag ?_ GE156.out | refine qag ?_ GE162.out) | exact HB.out)⟩
                 (try clear HO_5)
                 (try clear HO173)
                 (try clear BK156)
                 (try clear BK162)
                 (try clear HB)
                 generalize (w128.setCell ⟨go109, (((rd_T39 l0_1 x17_1).f1) : Int).toNat, none⟩ (.bool true)) = w131 at n0_ n1_ n2_ n3_ n4_ ⊢
                 have HO_5 := n0_
                 have HO173 := n1_
                 have BK156 := n2_
                 have BK162 := n3_
                 have HB := n4_
                 clear n0_ n1_ n2_ n3_ n4_
                 have n0_ := Aside0.mk (Kd.S_drew HO_5.out)
                 have n1_ := Aside0.mk (Kd.R_drew HO173.out)
                 have n2_ := Aside0.mk (qab BK156.out)
                 have n3_ := Aside0.mk (qab BK162.out)
                 have n4_ := Aside0.mk (qaf HB.out)
                 clear HO_5
                 clear HO173
                 clear BK156
                 clear BK162
                 clear HB
                 have HO_5 := n0_
                 have HO173 := n1_
                 have BK156 := n2_
                 have BK162 := n3_
                 have HB := n4_
                 clear n0_ n1_ n2_ n3_ n4_
                 have p203 : 0 ≤ (((rd_T39 l0_1 x17_1).f1) : Int) := oD_
                 have q203 : ((rd_T39 l0_1 x17_1).f1) < (y202.length : Int) := (by have h_ : (((rd_T39 l0_1 x17_1).f1) : Int) < ((x5_1.length : Int) : Int) := oD_; first | (have e_ := (Kd.S_reads' HO_5.out).1; omega) | simpa only [Ny166.out, Ny170.out, Ny202.out, List.length_set] using h_)
                 have ql203 : ((((rd_T39 l0_1 x17_1).f1) : Int) < ((x5_1.length : Int) : Int)) = True := eq_true (oD_)
                 obtain ⟨ad203, A203_0, c203_0, e203, hx203_0, hl203_0, hi203_0⟩ := at_L4 (Kd.S_reads' HO_5.out).2.2 ((rd_T39 l0_1 x17_1).f1) p203 q203
                 obtain rfl : ad163 = ad203 := (by injection e203)
                 obtain ⟨ce203, hce203, hMe203, hcc203⟩ := Kd.S_get HO_5.out [] ((rd_T39 l0_1 x17_1).f1) p203 (by first | exact q203 | exact oD_ | (have e_ := (Kd.S_reads' HO_5.out).1; omega))
                 obtain ⟨ve203_0, rfl, ge203_0⟩ := hMe203
                 have hv203_0 := hcc203 0 _ rfl
                 rw [Nat.add_zero, show ((Kd.slice 4 Kd.bool)).sz = 1 from rfl, Nat.mul_one] at hv203_0
                 replace hv203_0 := Option.some.inj (hv203_0.symm.trans hx203_0)
                 rw [hv203_0] at ge203_0
                 have HL203_0 := Aside0.mk (show Kd.R Kd.bool 4 _ _ _ _ (rd_L4 y202 ((rd_T39 l0_1 x17_1).f1)) from ge203_0)
                 clear hv203_0 ge203_0
                 have HX203_0 := Aside0.mk hx203_0
                 clear hcc203 hce203
                 have HR203_0 := Aside0.mk hi203_0
                 have HC203_0 := Aside0.mk hl203_0
                 clear hi203_0 hl203_0
                 replace p203 := eq_true p203
                 replace q203 := eq_true q203
                 have p111 : 0 ≤ (((rd_T39 l0_1 x17_1).f0) : Int) := oD_
                 have q111 : (((rd_T39 l0_1 x17_1).f0) : Int) < (((rd_L4 y202 ((rd_T39 l0_1 x17_1).f1)).length : Int) : Int) := oD_
                 obtain ⟨go111, co111, eo111, gb111, gl111, cl111, HG111⟩ := Kd.R_form HL203_0.out (by omega)
                 (first | cases eo111 | (injection eo111 with ea_ en_ ec_; (first | subst ea_ | (injection ea_ with ea_; subst ea_)); subst ec_; clear en_))
                 have GB111 := Aside0.mk gb111
                 have GG111 := Aside0.mk HG111
                 clear gb111 gl111 HG111
                 obtain ⟨hx111_0, hf111_0⟩ := Kd.R_celln false HL203_0.out (((rd_T39 l0_1 x17_1).f0) : Int) p111 q111
                 replace p111 := eq_true p111
                 replace q111 := eq_true q111
                 have hq133 : (((rd_T39 l0_1 x17_1).f1) : Int) < (y202.length : Int) := (by have h_ : (((rd_T39 l0_1 x17_1).f1) : Int) < ((x5_1.length : Int) : Int) := oD_; first | exact h_ | (have e_ := (Kd.S_reads' HO_5.out).1; omega) | simpa only [Ny166.out, Ny170.out, Ny202.out, List.length_set] using h_)
                 obtain ⟨oki133, ce133, hcl133, hM133, hcc133, hok133, hbk133⟩ := Kd.S_borrow HO_5.out [] (((rd_T39 l0_1 x17_1).f1) : Int) (oD_) (by first | exact hq133 | exact oD_ | (have e_ := (Kd.S_reads' HO_5.out).1; omega))
                 obtain ⟨ve133_0, rfl, ge133_0⟩ := hM133
                 have hv133 := hcc133 0 _ rfl
                 rw [Nat.add_zero, show ((Kd.slice 4 Kd.bool)).sz = 1 from rfl, Nat.mul_one] at hv133
                 replace hv133 := Option.some.inj (hv133.symm.trans HX203_0.out)
                 subst hv133
                 clear hcc133 hcl133
                 replace ge133_0 := (show Kd.R Kd.bool 4 _ _ _ _ (rd_L4 y202 ((rd_T39 l0_1 x17_1).f1)) from ge133_0)
                 have HP133 := Kd.R_putg ge133_0 (((rd_T39 l0_1 x17_1).f0) : Int) true
                 rw [← Ny204.out] at HP133
                 have HS133 := hbk133 HP133.2 (fun k_ e_ => by injection e_ with e_; subst e_; exact ge133_0.1 _ rfl) (x' := y204) (Kd.M_row HP133.1)
                 rw [← Ny206.out] at HS133
                 have HQ133 := Aside0.mk HS133
                 clear HP133 HS133 hbk133 hok133
                 refine start_ (n := 9) (S := fun w' => w'.cell? ⟨gb162, 0, none⟩ = some (.int .i64 ((rd_T39 l0_1 x17_1).f0)) ∧ w'.cell? ⟨gb162, 1, none⟩ = some (.int .i64 ((rd_T39 l0_1 x17_1).f1)) ∧ w'.cell? (ad163.add (((rd_T39 l0_1 x17_1).f1)).toNat) = some (.slice (some ⟨go111, 0, none⟩) (rd_L4 y202 ((rd_T39 l0_1 x17_1).f1)).length c203_0)) (ds := [8]) #[fF,fF,fF,fF,fF,fF,fF,fF,fF] (by kernel_rfl) rfl rfl ⟨(qaa BK162.out 0).trans rfl, (qaa BK162.out 1).trans rfl, hx203_0⟩ (fun hHeld => ?_); refine with_tabW spec_ShortestRound.tab14 spec_ShortestRound.bits14 (fun HT_ HW_ => ?_)
                 generalize w131.drew = w132 at HO_5 HO173 BK156 BK162 HB GG111 HL203_0 HQ129 HQ133 HR203_0 HX203_0 hf111_0 hx111_0 hx203_0 hHeld ⊢
                 refine qan (i := 0) (N := some 67) (v := ?_) (a' := ?_) #[tT,fF,fF,fF,fF,fF,fF,fF,fF] rfl rfl (aO_ HT_.out) (fun _ _ _ h => h) (.inl ⟨by rfl, ?_⟩) ?_ ?_
                 rotate_left
                 ·intro w'
                  go_simp
                  with_reducible rfl
                 rotate_left
                 ·simp only [Act.put, sP_, qai, qaj]
                  rfl
                 refine qan (i := 1) (N := some 68) (v := ?_) (a' := ?_) #[tT,tT,fF,fF,fF,fF,fF,fF,fF] rfl rfl (aO_ HT_.out) (fun _ _ _ h => h) (.inl ⟨by rfl, ?_⟩) ?_ ?_
                 rotate_left
                 ·intro w'
                  go_simp
                  with_reducible rfl
                 rotate_left
                 ·simp only [Act.put, sP_, qai, qaj]
                  rfl
                 refine qan (i := 5) (N := some 72) (v := ?_) (a' := ?_) #[tT,tT,fF,fF,fF,tT,fF,fF,fF] rfl rfl (aO_ HT_.out) (fun _ _ _ h => h) (.inl ⟨by rfl, ?_⟩) ?_ ?_
                 rotate_left
                 ·intro w'
                  go_simp
                  with_reducible rfl
                 rotate_left
                 ·simp only [Act.put, sP_, qai, qaj]
                  rfl
                 refine take_ (i := 2) (N := some 69) (v := ?_) (a' := ?_) #[tT,tT,tT,fF,fF,tT,fF,fF,fF] rfl rfl (qar HT_.out HW_.out (by kernel_rfl)) (fun _ _ _ h => h) (Or.inl ⟨by rfl, ?_⟩) hHeld ?_ ?_
                 rotate_left
                 ·rintro w' ⟨s0, s1, s2⟩
                  go_simp
                  with_reducible rfl
                 rotate_left
                 ·simp only [Act.put, sP_, qai, qaj]
                  rfl
                 refine qan (i := 3) (N := some 70) (v := ?_) (a' := ?_) #[tT,tT,tT,tT,fF,tT,fF,fF,fF] rfl rfl (aO_ HT_.out) (fun _ _ _ h => h) (.inl ⟨by rfl, ?_⟩) ?_ ?_
                 rotate_left
                 ·intro w'
                  go_simp
                  with_reducible rfl
                 rotate_left
                 ·simp only [Act.put, sP_, qai, qaj]
                  rfl
                 refine take_ (i := 4) (N := some 71) (v := ?_) (a' := ?_) #[tT,tT,tT,tT,tT,tT,fF,fF,fF] rfl rfl (qar HT_.out HW_.out (by kernel_rfl)) (fun _ _ _ h => h) (Or.inl ⟨by rfl, ?_⟩) hHeld ?_ ?_
                 rotate_left
                 ·rintro w' ⟨s0, s1, s2⟩
                  go_simp
                  with_reducible rfl
                 rotate_left
                 ·simp only [Act.put, sP_, qai, qaj]
                  rfl
                 refine take_ (i := 6) (N := some 73) (v := ?_) (a' := ?_) #[tT,tT,tT,tT,tT,tT,tT,fF,fF] rfl rfl (qar HT_.out HW_.out (by kernel_rfl)) (fun _ _ _ h => h) (Or.inl ⟨by rfl, ?_⟩) hHeld ?_ ?_
                 rotate_left
                 ·rintro w' ⟨s0, s1, s2⟩
                  go_simp
                  with_reducible rfl
                 rotate_left
                 ·simp only [Act.put, sP_, qai, qaj]
                  rfl
                 refine qan (i := 7) (N := some 74) (v := ?_) (a' := ?_) #[tT,tT,tT,tT,tT,tT,tT,tT,fF] rfl rfl (aO_ HT_.out) (fun _ _ _ h => h) (.inl ⟨by rfl, ?_⟩) ?_ ?_
                 rotate_left
                 ·intro w'
                  go_simp
                  with_reducible rfl
                 rotate_left
                 ·simp only [Act.put, sP_, qai, qaj]
                  rfl
                 refine last_ (i := 8) (N := none) #[tT,tT,tT,tT,tT,tT,tT,tT,tT] rfl rfl (one_of HT_.out (by kernel_rfl)) (by decide) (fun K hK => ?_)
                 refine skip_ (w1 := ?_) (by rfl) rfl ?_ ?_
                 rotate_left
                 ·go_simp
                  rfl
                 refine hK.out _ _ ?_
                 clear hK K
                 refine done_ (done_of HT_.out (by kernel_rfl)) ?_
                 try go_wp2
                 go_roundg k1
                 case measure => have := HK1.out; omega
                 case rel => exact ⟨(x4_1), (y206), (wrap64 (x17_1 + 1)), rS_, rS_, H', ⟨by have := HK1.out; omega⟩, ⟨by (with_reducible repeat (first | apply Kd.S_alloc | apply Kd.S_drewN | apply Kd.S_drew)); exact HQ133.out⟩, ⟨by (with_reducible repeat (first | refine qad ?_ _ | refine qab ?_ | refine qae ?_ _)); refine blk_far ?_ (by have h_ := Kd.R_ne HL203_0.out BK156.out (by decide); intro e_; exact h_ (by rw [e_]; rfl)) _; (with_reducible repeat (first | refine qad ?_ _ | refine qab ?_ | refine qae ?_ _)); exact BK156.out⟩, ⟨by repeat (first | (with_reducible first | exact HB.out | apply qal | apply qac | apply qaf | refine qag ?_ GB111.out | refine qag ?_ GE156.out | refine qag ?_ GE162.out) | exact HB.out)⟩⟩
                ·rw [if_neg c110] at H
                 exact absurd H (by simp)
               ·rw [if_neg c108] at H
                exact absurd H (by simp)
             ·rw [if_neg c23] at H
              exact absurd H (by simp)
            ·rw [if_neg c20] at H
             exact absurd H (by simp)
           ·rw [if_neg c19] at H
            exact absurd H (by simp)
          ·rw [if_neg c17] at H
           exact absurd H (by simp)
         ·rw [if_neg c16] at H
          exact absurd H (by simp)
        ·rw [if_neg c15] at H
         exact absurd H (by simp)
       ·rw [if_neg c14] at H
        exact absurd H (by simp)
      ·rw [if_neg c13] at H
       exact absurd H (by simp)
     ·rw [if_neg c12] at H
      exact absurd H (by simp)
    ·rw [if_neg c11] at H
     have c11b0 : decide (x17_1 < (l0_1.length : Int)) = false := decide_eq_false c11
     clear c11
     simp only [Option.some.injEq, Prod.mk.injEq] at H
     obtain ⟨rfl, rfl⟩ := H
     go_wp2
     go_ret2
     exact ⟨by first | rfl | (simp [errW_none, errW_some] <;> rfl) | (simp [*, errW_none, errW_some] <;> rfl), by repeat (first | (with_reducible first | exact HB.out | apply qal | apply qac | apply qaf | refine qag ?_ GE156.out) | exact HB.out)⟩
 ·replace c3 := Bool.eq_false_iff.mpr c3
  subst c3
  have H1 : (some (0, false)) = some (r1, r2) := by rw [if_neg (show ¬ (false = true) by decide)] at H; exact H
  clear H
  have H := H1
  clear H1
  simp only [Option.some.injEq, Prod.mk.injEq] at H
  obtain ⟨rfl, rfl⟩ := H
  go_enter Tryd.func5, Tryd.ntmps5
  go_wp2_with (first | ((with_reducible refine gate_dst (N := 1) rfl ?_); refine box_event ?hg (N := 1) ?hd (cs := #[.int .i64 a0_0, .slice A0_1 l0_1.length c0_1]) (t := 30) ?hr ?_; (case hd => rfl); (case hg => rfl); (case hr => first | (go_simp; done) | (go_simp; rfl)); intro gb156 hg w135 hbox hb; have n0_ := Aside0.mk (qao hB_ hb); have n1_ := Aside0.mk (hbox); have n2_ := Aside0.mk ((by rw [hg]; exact (qap hB_) : w.heap.size ≤ gb156)); have n3_ := n2_; clear HB; have HB := n0_; have BK156 := n1_; have GW156 := n2_; have GE156 := n3_; clear n0_ n1_ n2_ n3_; clear hb hbox hg; have hcz136_0 : w135.cell? ⟨gb156, 0, none⟩ = some (.int .i64 a0_0) := (qaa BK156.out 0).trans rfl; have hcz136_1 : w135.cell? ⟨gb156, 1, none⟩ = some (.slice A0_1 l0_1.length c0_1) := (qaa BK156.out 1).trans rfl; have hfz136_0 := qam BK156.out 0; have hfz136_1 := qam BK156.out 1) | ((with_reducible refine gate_callee (f := 10) rfl ?_); refine goesL_ (some 10) rfl rfl Tryd.func10 (by kernel_rfl) rfl #[.agg #[.int .i64 a0_0, .slice A0_1 l0_1.length c0_1]] rfl mT_ ?_; (with_reducible refine (spec_paGood.calls k a0_0 _ _ l0_1 false _ ?side1 ?side2 A2.out).mono ?_); (case side1 => repeat (first | exact (Kd.C_below HR0_1.out HB.out) | (with_reducible refine Kd.C_alloc ?_ _) | (with_reducible refine Kd.C_drewN ?_ _) | (with_reducible refine Kd.C_drew ?_))); (case side2 => exact HC0_1.out); rintro e w137 ⟨rfl, hb⟩; refine ⟨_, rfl, ?_⟩; have n0_ := Aside0.mk (qaq (g := gb156) (o := .cells #[.int .i64 a0_0, .slice A0_1 l0_1.length c0_1] 30 (0, 0)) (uB_ BK156.out) hb); have n1_ := Aside0.mk (qao (hB1_ GE156.out) hb); clear BK156; clear HB; have BK156 := n0_; have HB := n1_; clear n0_ n1_; (try clear hb); (try clear hb2); (try clear hk); (try clear hi)))
  go_ret2
  exact ⟨by first | rfl | (simp [errW_none, errW_some] <;> rfl) | (simp [*, errW_none, errW_some] <;> rfl), by repeat (first | (with_reducible first | exact HB.out | apply qal | apply qac | apply qaf | refine qag ?_ GE156.out) | exact HB.out)⟩

end Go.Proofs.YtbamgkgcoedliaaDoor.Q
