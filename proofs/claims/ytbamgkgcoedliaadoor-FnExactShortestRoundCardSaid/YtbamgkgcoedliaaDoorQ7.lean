-- Written by wip/tools/gprint.py (the kit's print, with contracts of this session): Lean checks it.
import Derived.Test.YtbamgkgcoedliaaDoorQ0
namespace Go.Proofs.YtbamgkgcoedliaaDoor.Q
open Go.RowKit Go.Proofs.YtbamgkgcoedliaaDoorW.PrintWords Go.Proofs.YtbamgkgcoedliaaDoorW.PrintLast Go.Proofs.YtbamgkgcoedliaaDoorW.PrintMore
attribute [local go_sem] max2_int min2_int max_two min_two max_three min_three max_four min_four   -- for this text's walks alone
set_option linter.unusedVariables false
set_option linter.unusedSimpArgs false

/-! ### spec_paTable: function 11 -/
mutual
def spec_paTable.l0 : Nat → List (List Bool) → Int → Int → List (S39) → Option ((List (List Bool)))
 | 0, _, _, _, _ => none
 | k + 1, x3, x4, x115000, x115001 => if x4 < x115000 then (if 0 ≤ x115000 then (if (x115000 : Int).toNat ≤ 281474976710656 then (if x3.length < 5864062014805 then (spec_paTable.l0 k (x3 ++ [(List.replicate (x115000 : Int).toNat false)]) (wrap64 (x4 + 1)) x115000 x115001) else (none)) else (none)) else (none)) else (spec_paTable.l1 k x3 x115001 (x115001.length : Int) 0)
def spec_paTable.l1 : Nat → List (List Bool) → List (S39) → Int → Int → Option ((List (List Bool)))
 | 0, _, _, _, _ => none
 | k + 1, x3, x20, x21, x22 => if x22 < x21 then (if 0 ≤ x22 then (if x22 < (x20.length : Int) then (if 0 ≤ ((rd_T39 x20 x22).f0) then (if ((rd_T39 x20 x22).f0) < (x3.length : Int) then (if 0 ≤ ((rd_T39 x20 x22).f1) then (if ((rd_T39 x20 x22).f1) < ((rd_L4 x3 ((rd_T39 x20 x22).f0)).length : Int) then ((some (x3.set (((rd_T39 x20 x22).f0) : Int).toNat ((rd_L4 x3 ((rd_T39 x20 x22).f0)).set (((rd_T39 x20 x22).f1) : Int).toNat true) : List (List Bool))).bind fun y126 => (if ((rd_T39 x20 x22).f1) < (x3.length : Int) then (if ((rd_T39 x20 x22).f0) < ((rd_L4 y126 ((rd_T39 x20 x22).f1)).length : Int) then (spec_paTable.l1 k (y126.set (((rd_T39 x20 x22).f1) : Int).toNat ((rd_L4 y126 ((rd_T39 x20 x22).f1)).set (((rd_T39 x20 x22).f0) : Int).toNat true)) x20 x21 (wrap64 (x22 + 1))) else (none)) else (none))) else (none)) else (none)) else (none)) else (none)) else (none)) else (none)) else (some x3)
end
def spec_paTable.f (k : Nat) (a0_0 : Int) (l0_1 : List (S39)) : Option ((List (List Bool))) := spec_paTable.l0 k ([] : List (List Bool)) 0 a0_0 l0_1
theorem spec_paTable.mono_l : ∀ k, (∀ y0 y1 y2 y3, LeO (spec_paTable.l0 k y0 y1 y2 y3) (spec_paTable.l0 (k + 1) y0 y1 y2 y3)) ∧ (∀ y0 y1 y2 y3, LeO (spec_paTable.l1 k y0 y1 y2 y3) (spec_paTable.l1 (k + 1) y0 y1 y2 y3))
 | 0 => ⟨fun _ _ _ _ r h => by simp [spec_paTable.l0] at h, fun _ _ _ _ r h => by simp [spec_paTable.l1] at h⟩
 | k + 1 => by
  obtain ⟨ih0, ih1⟩ := spec_paTable.mono_l k
  refine ⟨?_, ?_⟩
  ·intro y0 y1 y2 y3
   unfold spec_paTable.l0
   repeat' first
   | (with_reducible exact ih0 _ _ _ _)
   | (with_reducible exact ih1 _ _ _ _)
   | (with_reducible exact LeO.refl _)
   | (with_reducible exact LeO.none _)
   | (with_reducible refine LeO.ite ?_ ?_)
   | (with_reducible refine LeO.bind ?_ (fun _ => ?_))
   | exact ih0 _ _ _ _
   | exact ih1 _ _ _ _
   | exact LeO.none _
   | refine LeO.ite ?_ ?_
   | refine LeO.bind ?_ (fun _ => ?_)
  ·intro y0 y1 y2 y3
   unfold spec_paTable.l1
   repeat' first
   | (with_reducible exact ih0 _ _ _ _)
   | (with_reducible exact ih1 _ _ _ _)
   | (with_reducible exact LeO.refl _)
   | (with_reducible exact LeO.none _)
   | (with_reducible refine LeO.ite ?_ ?_)
   | (with_reducible refine LeO.bind ?_ (fun _ => ?_))
   | exact ih0 _ _ _ _
   | exact ih1 _ _ _ _
   | exact LeO.none _
   | refine LeO.ite ?_ ?_
   | refine LeO.bind ?_ (fun _ => ?_)
theorem spec_paTable.mono : ∀ a0 a1 k, LeO (spec_paTable.f k a0 a1) (spec_paTable.f (k + 1) a0 a1) := by
 intro a0 a1 k
 obtain ⟨ih0, ih1⟩ := spec_paTable.mono_l k
 unfold spec_paTable.f
 repeat' first
   | (with_reducible exact ih0 _ _ _ _)
   | (with_reducible exact ih1 _ _ _ _)
   | (with_reducible exact LeO.refl _)
   | (with_reducible exact LeO.none _)
   | (with_reducible refine LeO.ite ?_ ?_)
   | (with_reducible refine LeO.bind ?_ (fun _ => ?_))
   | exact ih0 _ _ _ _
   | exact ih1 _ _ _ _
   | exact LeO.none _
   | refine LeO.ite ?_ ?_
   | refine LeO.bind ?_ (fun _ => ?_)
def spec_paTable.T9 : Bool × List (List Nat × List Nat) := (true, [([], []), ([], []), ([1], [1]), ([0, 2], [0, 2]), ([3], [3]), ([], []), ([5], [5]), ([4, 6, 0, 1, 2, 3, 4, 5, 6], [4, 6]), ([7, 0, 1, 2, 3, 4, 5, 6], [7])])
def spec_paTable.B9 : List Nat := [0, 0, 2, 7, 15, 0, 32, 127, 255]
theorem spec_paTable.tab9 : rtab .any (opsOf Tryd.f11 9) = spec_paTable.T9 := by kernel_rfl
theorem spec_paTable.bits9 : waitsOk spec_paTable.T9.2 spec_paTable.B9 = true := by kernel_rfl
def spec_paTable.T10 : Bool × List (List Nat × List Nat) := (true, [([], []), ([], []), ([1], [1]), ([0, 2], [0, 2]), ([3], [3]), ([], []), ([5], [5]), ([4, 6, 0, 1, 2, 3, 4, 5, 6], [4, 6]), ([7, 0, 1, 2, 3, 4, 5, 6], [7])])
def spec_paTable.B10 : List Nat := [0, 0, 2, 7, 15, 0, 32, 127, 255]
theorem spec_paTable.tab10 : rtab .any (opsOf Tryd.f11 10) = spec_paTable.T10 := by kernel_rfl
theorem spec_paTable.bits10 : waitsOk spec_paTable.T10.2 spec_paTable.B10 = true := by kernel_rfl
set_option maxHeartbeats 8000000 in
set_option maxRecDepth 100000 in
theorem spec_paTable.calls (k : Nat) (a0_0 : Int) (A0_1 : Option Addr) (c0_1 : Nat) (l0_1 : List (S39)) (r : List (List Bool)) (w : World) (hr0_1 : Kd.C k39 w A0_1 l0_1.length l0_1) (hc0_1 : l0_1.length ≤ c0_1) (h : spec_paTable.f k a0_0 l0_1 = some r) :
  Calls Tryd.prog 11 #[.agg #[.int .i64 a0_0, .slice A0_1 l0_1.length c0_1]] w fun e w' => ∃ v0_ : Value, e = .returned (v0_) ∧ Kd.S (Kd.slice 4 Kd.bool) 40 w' w.heap.size (fun _ => True) v0_ r ∧ Below w.heap.size w w' := by
 have hu30 := Tryd.underlying30
 have hu39 := Tryd.underlying39
 have HR0_1 := Aside0.mk hr0_1
 have HC0_1 := Aside0.mk hc0_1
 clear hr0_1 hc0_1
 have HB := Aside0.mk (Below.refl w.heap.size w)
 have H : (spec_paTable.l0 k ([] : List (List Bool)) 0 a0_0 l0_1) = some r := h
 clear h
 have H' := Aside0.mk H
 clear H
 go_enter Tryd.func11, Tryd.ntmps11
 go_wp2_with (first | ((with_reducible refine gate_dst (N := 1) rfl ?_); refine box_event ?hg (N := 1) ?hd (cs := #[.int .i64 a0_0, .slice A0_1 l0_1.length c0_1]) (t := 30) ?hr ?_; (case hd => rfl); (case hg => rfl); (case hr => first | (go_simp; done) | (go_simp; rfl)); intro gb114 hg w2 hbox hb; have n0_ := Aside0.mk (qao hB_ hb); have n1_ := Aside0.mk (hbox); have n2_ := Aside0.mk ((by rw [hg]; exact (qap hB_) : w.heap.size ≤ gb114)); have n3_ := n2_; clear HB; have HB := n0_; have BK114 := n1_; have GW114 := n2_; have GE114 := n3_; clear n0_ n1_ n2_ n3_; clear hb hbox hg))
 go_loopg [3, 4] k (fun kq v3 v4 w' => ∃ (x3_1 : List (List Bool)) (x4_1 : Int), v4 = .int .i64 x4_1 ∧ Aside0 (spec_paTable.l0 kq x3_1 x4_1 a0_0 l0_1 = some r) ∧ Aside0 (kq ≤ k) ∧ Aside0 (Kd.S (Kd.slice 4 Kd.bool) 40 w' w.heap.size (fun _ => True) v3 x3_1) ∧ Aside0 (w'.heap[gb114]? = some (.cells #[.int .i64 a0_0, (.slice A0_1 l0_1.length c0_1)] 30 (0, 0))) ∧ Aside0 (Below w.heap.size w w'))
 case atStart => exact ⟨(([] : List (List Bool))), (0), rS_, H', ⟨Nat.le_refl _⟩, ⟨by first | exact Kd.S_nil _ _ _ _ _ | exact Kd.N_nil _ _ _ _ _ | exact Kd.V_nil _ _ _ _ _ | exact Kd.Q_nil _ _ _ _ _ | exact Kd.R_nil _ _ _ _ _⟩, ⟨by (with_reducible repeat (first | refine qad ?_ _ | refine qab ?_ | refine qae ?_ _)); exact BK114.out⟩, ⟨by repeat (first | (with_reducible first | exact HB.out | apply qal | apply qac | apply qaf | refine qag ?_ GE114.out) | exact HB.out)⟩⟩
 case round =>
  clear H'
  obtain ⟨x3_1, x4_1, rfl, HA, HK1, HO_3, BK114, HB⟩ := hrel
  cases gk with
  | zero => exact absurd HA.out (by simp [spec_paTable.l0])
  | succ k1 =>
   have H := HA.out
   clear HA
   simp only [spec_paTable.l0] at H
   by_cases c3 : x4_1 < a0_0
   ·rw [if_pos c3] at H
    have c3b0 : decide (x4_1 < a0_0) = true := decide_eq_true c3
    clear c3
    by_cases c4 : 0 ≤ a0_0
    ·rw [if_pos c4] at H
     have c4b0 := eq_true c4
     have c4b1 : decide (0 ≤ a0_0) = true := decide_eq_true c4
     clear c4
     by_cases c5 : (a0_0 : Int).toNat ≤ 281474976710656
     ·rw [if_pos c5] at H
      have c5b0 := eq_true c5
      have c5b1 : decide ((a0_0 : Int).toNat ≤ 281474976710656) = true := decide_eq_true c5
      clear c5
      obtain ⟨y115, hy115⟩ : ∃ y_ : List Bool, y_ = (List.replicate (a0_0 : Int).toNat false) := ⟨_, rfl⟩
      replace H : (if x3_1.length < 5864062014805 then (spec_paTable.l0 k1 (x3_1 ++ [y115]) (wrap64 (x4_1 + 1)) a0_0 l0_1) else (none)) = some r := by first | (rw [hy115]; with_reducible exact H) | (have H2_ := (Option.bind_some _ _).symm.trans H; rw [hy115]; with_reducible exact H2_) | (have H2_ := (Option.bind_some _ _).symm.trans H; with_reducible exact H2_) | with_reducible exact H | (rw [hy115]; exact H) | exact H
      have Ny115 := Aside0.mk hy115
      clear hy115
      by_cases c6 : x3_1.length < 5864062014805
      ·rw [if_pos c6] at H
       have LMc6 := Aside0.mk c6
       clear c6
       obtain ⟨y118, hy118⟩ : ∃ y_ : List (List Bool), y_ = (x3_1 ++ [y115]) := ⟨_, rfl⟩
       replace H : (spec_paTable.l0 k1 y118 (wrap64 (x4_1 + 1)) a0_0 l0_1) = some r := by first | (rw [hy118]; with_reducible exact H) | (have H2_ := (Option.bind_some _ _).symm.trans H; rw [hy118]; with_reducible exact H2_) | (have H2_ := (Option.bind_some _ _).symm.trans H; with_reducible exact H2_) | with_reducible exact H | (rw [hy118]; exact H) | exact H
       have Ny118 := Aside0.mk hy118
       clear hy118
       have H' := Aside0.mk H
       clear H
       have hcz7_0 : wr.cell? ⟨gb114, 0, none⟩ = some (.int .i64 a0_0) := (qaa BK114.out 0).trans rfl
       have hcz7_1 : wr.cell? ⟨gb114, 1, none⟩ = some (.slice A0_1 l0_1.length c0_1) := (qaa BK114.out 1).trans rfl
       have hfz7_0 := qam BK114.out 0
       have hfz7_1 := qam BK114.out 1
       go_wp2_with (first | ((with_reducible refine gate_dst (N := 16) rfl ?_); refine Kd.R_make Kd.bool _ 4 rfl (N := 16) rfl 40 _ _ rfl a0_0 rfl rfl Tryd.underlying40 (.bool false) 1 info4 rfl (by decide) (by omega) false (ok := fun _ => True) (okp := fun _ => True) rfl (fun _ hk => hk) trivial (oD_) (Nat.le_trans (Nat.mul_le_mul_right _ (oD_ : a0_0.toNat ≤ 281474976710656)) (by omega)) (Below.refl _ _) (Nat.le_refl _) ?_; intro v116 w8 ho9 hb hg_ hnew_; clear hg_ hnew_; (first | rw [← Ny115.out] at ho9 | (simp only [Int.reduceToNat] at ho9; rw [← Ny115.out] at ho9)); have n0_ := Aside0.mk (Kd.S_elder' (uS_ HO_3.out) (Kd.R_base ho9) hb); have n1_ := Aside0.mk (Kd.R_lower ho9 (qap (hB1_ GE114.out))); have n2_ := Aside0.mk (qaq (g := gb114) (o := .cells #[.int .i64 a0_0, .slice A0_1 l0_1.length c0_1] 30 (0, 0)) (uB_ BK114.out) hb); have n3_ := Aside0.mk (qao (hB1_ GE114.out) hb); clear HO_3; clear BK114; clear HB; have HO_3 := n0_; have HO117 := n1_; have BK114 := n2_; have HB := n3_; clear n0_ n1_ n2_ n3_; clear hb ho9; obtain ⟨Ao11, co11, eo11⟩ := Kd.R_slice HO117.out; subst eo11) | ((with_reducible refine gate_builtin (b := .append) (xs := #[.tmp 13, .tmp 17]) rfl ?_); at_builtin; refine Kd.S_append (Kd.slice 4 Kd.bool) (w0 := w) w.heap.size rfl (.tmp 13) (.tmp 17) 36 40 (.slice none 0 0) 24 rfl Tryd.underlying36 info40 rfl (by decide) (by omega) u3 x3_1 y115 [.slice Ao11 y115.length co11] (fun _ => True) (fun k_ => some k_ = (.slice Ao11 y115.length co11 : Value).ownBlock) rfl rfl ?aP (fun k_ hk_ => ((Kd.R_mono (ok' := fun k_ => ((fun _ => True)) k_ ∧ some k_ ≠ (u3 : Value).ownBlock) (Kd.R_apart' (HO117.out) (Kd.S_typed HO_3.out) (by decide)) (fun k_ hk => ⟨trivial, hk.2⟩))).1 k_ hk_.symm) ?aF ?aO ?aB ?aS ?aL ?_; (case aP => exact Kd.M_row (Kd.R_mono (Kd.R_tight rfl (Kd.R_mono (ok' := fun k_ => ((fun _ => True)) k_ ∧ some k_ ≠ (u3 : Value).ownBlock) (Kd.R_apart' (HO117.out) (Kd.S_typed HO_3.out) (by decide)) (fun k_ hk => ⟨trivial, hk.2⟩))) (fun _ h_ => h_))); (case aB => exact (hB1_ GE114.out)); (case aF => exact (fun _ _ => trivial)); (case aO => exact (by (with_reducible repeat (first | apply Kd.S_alloc | apply Kd.S_drewN | apply Kd.S_drew)); exact Kd.S_mono HO_3.out (fun k_ hk => ⟨trivial, fun e_ => hk.2 e_⟩))); (case aS => exact (qap (hB1_ GE114.out))); (case aL => have := LMc6.out; omega); intro v119 w10 ho hb hg hat; rw [← Ny118.out] at ho; have n0_ := Aside0.mk (blk_grown (g := gb114) (o := .cells #[.int .i64 a0_0, .slice A0_1 l0_1.length c0_1] 30 (0, 0)) (uB_ BK114.out) hg (Kd.S_ne HO_3.out BK114.out (by decide))); have n1_ := Aside0.mk (hb); have n2_ := Aside0.mk (ho); clear BK114; clear HB; clear HO_3; clear HO117; have BK114 := n0_; have HB := n1_; have HO120 := n2_; clear n0_ n1_ n2_; clear ho hb hg hat))
       go_roundg k1
       case measure => have := HK1.out; omega
       case rel => exact ⟨(y118), (wrap64 (x4_1 + 1)), rS_, H', ⟨by have := HK1.out; omega⟩, ⟨by (with_reducible repeat (first | apply Kd.S_alloc | apply Kd.S_drewN | apply Kd.S_drew)); exact HO120.out⟩, ⟨by (with_reducible repeat (first | refine qad ?_ _ | refine qab ?_ | refine qae ?_ _)); exact BK114.out⟩, ⟨by repeat (first | (with_reducible first | exact HB.out | apply qal | apply qac | apply qaf | refine qag ?_ GE114.out) | exact HB.out)⟩⟩
      ·rw [if_neg c6] at H
       exact absurd H (by simp)
     ·rw [if_neg c5] at H
      exact absurd H (by simp)
    ·rw [if_neg c4] at H
     exact absurd H (by simp)
   ·rw [if_neg c3] at H
    have c3b0 : decide (x4_1 < a0_0) = false := decide_eq_false c3
    clear c3
    have H' := Aside0.mk H
    clear H
    have hcz12_0 : wr.cell? ⟨gb114, 0, none⟩ = some (.int .i64 a0_0) := (qaa BK114.out 0).trans rfl
    have hcz12_1 : wr.cell? ⟨gb114, 1, none⟩ = some (.slice A0_1 l0_1.length c0_1) := (qaa BK114.out 1).trans rfl
    have hfz12_0 := qam BK114.out 0
    have hfz12_1 := qam BK114.out 1
    go_wp2
    go_loopg [22] k1 (fun kq v22 w' => ∃ (x3_2 : List (List Bool)) (x22_2 : Int), v22 = .int .i64 x22_2 ∧ Aside0 (spec_paTable.l1 kq x3_2 l0_1 (l0_1.length : Int) x22_2 = some r) ∧ Aside0 (kq ≤ k1) ∧ Aside0 (Kd.S (Kd.slice 4 Kd.bool) 40 w' w.heap.size (fun _ => True) u3 x3_2) ∧ Aside0 (w'.heap[gb114]? = some (.cells #[.int .i64 a0_0, (.slice A0_1 l0_1.length c0_1)] 30 (0, 0))) ∧ Aside0 (Below w.heap.size w w'))
    case atStart => exact ⟨(x3_1), (0), rS_, H', ⟨Nat.le_refl _⟩, ⟨by (with_reducible repeat (first | apply Kd.S_alloc | apply Kd.S_drewN | apply Kd.S_drew)); exact HO_3.out⟩, ⟨by (with_reducible repeat (first | refine qad ?_ _ | refine qab ?_ | refine qae ?_ _)); exact BK114.out⟩, ⟨by repeat (first | (with_reducible first | exact HB.out | apply qal | apply qac | apply qaf | refine qag ?_ GE114.out) | exact HB.out)⟩⟩
    case round =>
     clear H'
     obtain ⟨x3_2, x22_2, rfl, HA, HK2, HO_3, BK114, HB⟩ := hrel
     cases gk with
     | zero => exact absurd HA.out (by simp [spec_paTable.l1])
     | succ k2 =>
      have H := HA.out
      clear HA
      simp only [spec_paTable.l1] at H
      by_cases c13 : x22_2 < (l0_1.length : Int)
      ·rw [if_pos c13] at H
       have c13b0 : decide (x22_2 < (l0_1.length : Int)) = true := decide_eq_true c13
       clear c13
       by_cases c14 : 0 ≤ x22_2
       ·rw [if_pos c14] at H
        have c14b0 : decide (0 ≤ x22_2) = true := decide_eq_true c14
        clear c14
        by_cases c15 : x22_2 < (l0_1.length : Int)
        ·rw [if_pos c15] at H
         have c15b0 : decide (x22_2 < (l0_1.length : Int)) = true := decide_eq_true c15
         clear c15
         by_cases c16 : 0 ≤ ((rd_T39 l0_1 x22_2).f0)
         ·rw [if_pos c16] at H
          have c16b0 : decide (0 ≤ ((rd_T39 l0_1 x22_2).f0)) = true := decide_eq_true c16
          clear c16
          by_cases c17 : ((rd_T39 l0_1 x22_2).f0) < (x3_2.length : Int)
          ·rw [if_pos c17] at H
           have c17b0 : decide (((rd_T39 l0_1 x22_2).f0) < (x3_2.length : Int)) = true := decide_eq_true c17
           clear c17
           by_cases c18 : 0 ≤ ((rd_T39 l0_1 x22_2).f1)
           ·rw [if_pos c18] at H
            have c18b0 : decide (0 ≤ ((rd_T39 l0_1 x22_2).f1)) = true := decide_eq_true c18
            clear c18
            by_cases c19 : ((rd_T39 l0_1 x22_2).f1) < ((rd_L4 x3_2 ((rd_T39 l0_1 x22_2).f0)).length : Int)
            ·rw [if_pos c19] at H
             have c19b0 : decide (((rd_T39 l0_1 x22_2).f1) < ((rd_L4 x3_2 ((rd_T39 l0_1 x22_2).f0)).length : Int)) = true := decide_eq_true c19
             clear c19
             obtain ⟨y124, hy124⟩ : ∃ y_ : List Bool, y_ = ((rd_L4 x3_2 ((rd_T39 l0_1 x22_2).f0)).set (((rd_T39 l0_1 x22_2).f1) : Int).toNat true) := ⟨_, rfl⟩
             replace H : ((some (x3_2.set (((rd_T39 l0_1 x22_2).f0) : Int).toNat y124 : List (List Bool))).bind fun y126 => (if ((rd_T39 l0_1 x22_2).f1) < (x3_2.length : Int) then (if ((rd_T39 l0_1 x22_2).f0) < ((rd_L4 y126 ((rd_T39 l0_1 x22_2).f1)).length : Int) then (spec_paTable.l1 k2 (y126.set (((rd_T39 l0_1 x22_2).f1) : Int).toNat ((rd_L4 y126 ((rd_T39 l0_1 x22_2).f1)).set (((rd_T39 l0_1 x22_2).f0) : Int).toNat true)) l0_1 (l0_1.length : Int) (wrap64 (x22_2 + 1))) else (none)) else (none))) = some r := by first | (rw [hy124]; with_reducible exact H) | (have H2_ := (Option.bind_some _ _).symm.trans H; rw [hy124]; with_reducible exact H2_) | (have H2_ := (Option.bind_some _ _).symm.trans H; with_reducible exact H2_) | with_reducible exact H | (rw [hy124]; exact H) | exact H
             have Ny124 := Aside0.mk hy124
             clear hy124
             obtain ⟨y126, hy126⟩ : ∃ y_ : List (List Bool), y_ = (x3_2.set (((rd_T39 l0_1 x22_2).f0) : Int).toNat y124) := ⟨_, rfl⟩
             replace H : (if ((rd_T39 l0_1 x22_2).f1) < (x3_2.length : Int) then (if ((rd_T39 l0_1 x22_2).f0) < ((rd_L4 y126 ((rd_T39 l0_1 x22_2).f1)).length : Int) then (spec_paTable.l1 k2 (y126.set (((rd_T39 l0_1 x22_2).f1) : Int).toNat ((rd_L4 y126 ((rd_T39 l0_1 x22_2).f1)).set (((rd_T39 l0_1 x22_2).f0) : Int).toNat true)) l0_1 (l0_1.length : Int) (wrap64 (x22_2 + 1))) else (none)) else (none)) = some r := by first | (rw [hy126]; with_reducible exact H) | (have H2_ := (Option.bind_some _ _).symm.trans H; rw [hy126]; with_reducible exact H2_) | (have H2_ := (Option.bind_some _ _).symm.trans H; with_reducible exact H2_) | with_reducible exact H | (rw [hy126]; exact H) | exact H
             have Ny126 := Aside0.mk hy126
             clear hy126
             by_cases c21 : ((rd_T39 l0_1 x22_2).f1) < (x3_2.length : Int)
             ·rw [if_pos c21] at H
              have c21b0 : decide (((rd_T39 l0_1 x22_2).f1) < (x3_2.length : Int)) = true := decide_eq_true c21
              clear c21
              by_cases c22 : ((rd_T39 l0_1 x22_2).f0) < ((rd_L4 y126 ((rd_T39 l0_1 x22_2).f1)).length : Int)
              ·rw [if_pos c22] at H
               have c22b0 : decide (((rd_T39 l0_1 x22_2).f0) < ((rd_L4 y126 ((rd_T39 l0_1 x22_2).f1)).length : Int)) = true := decide_eq_true c22
               clear c22
               obtain ⟨y128, hy128⟩ : ∃ y_ : List Bool, y_ = ((rd_L4 y126 ((rd_T39 l0_1 x22_2).f1)).set (((rd_T39 l0_1 x22_2).f0) : Int).toNat true) := ⟨_, rfl⟩
               replace H : (spec_paTable.l1 k2 (y126.set (((rd_T39 l0_1 x22_2).f1) : Int).toNat y128) l0_1 (l0_1.length : Int) (wrap64 (x22_2 + 1))) = some r := by first | (rw [hy128]; with_reducible exact H) | (have H2_ := (Option.bind_some _ _).symm.trans H; rw [hy128]; with_reducible exact H2_) | (have H2_ := (Option.bind_some _ _).symm.trans H; with_reducible exact H2_) | with_reducible exact H | (rw [hy128]; exact H) | exact H
               have Ny128 := Aside0.mk hy128
               clear hy128
               obtain ⟨y130, hy130⟩ : ∃ y_ : List (List Bool), y_ = (y126.set (((rd_T39 l0_1 x22_2).f1) : Int).toNat y128) := ⟨_, rfl⟩
               replace H : (spec_paTable.l1 k2 y130 l0_1 (l0_1.length : Int) (wrap64 (x22_2 + 1))) = some r := by first | (rw [hy130]; with_reducible exact H) | (have H2_ := (Option.bind_some _ _).symm.trans H; rw [hy130]; with_reducible exact H2_) | (have H2_ := (Option.bind_some _ _).symm.trans H; with_reducible exact H2_) | with_reducible exact H | (rw [hy130]; exact H) | exact H
               have Ny130 := Aside0.mk hy130
               clear hy130
               have H' := Aside0.mk H
               clear H
               have p121 : 0 ≤ (x22_2 : Int) := oD_
               have q121 : x22_2 < (l0_1.length : Int) := oD_
               obtain ⟨ad121, e121, hx121_0, hx121_1⟩ := at_T39 HR0_1.out x22_2 p121 q121
               cases e121
               (try (replace hx121_0 := (HB.out.cell (World.block_lt_of_cell? w _ hx121_0)).trans hx121_0))
               (try (replace hx121_1 := (HB.out.cell (World.block_lt_of_cell? w _ hx121_1)).trans hx121_1))
               replace p121 := eq_true p121
               replace q121 := eq_true q121
               try go_wp2_with (first | ((with_reducible refine gate_dst (N := 6) rfl ?_); refine box_event ?hg (N := 6) ?hd (cs := #[.int .i64 0, .int .i64 0]) (t := 39) ?hr ?_; (case hd => rfl); (case hg => rfl); (case hr => first | (go_simp; done) | (go_simp; rfl)); intro gb122 hg w24 hbox hb; have n0_ := Aside0.mk (Kd.S_below (uS_ HO_3.out) hb); have n1_ := Aside0.mk (qaq (g := gb114) (o := .cells #[.int .i64 a0_0, .slice (some ad121) l0_1.length c0_1] 30 (0, 0)) (uB_ BK114.out) hb); have n2_ := Aside0.mk (qao (hB1_ GE114.out) hb); have n3_ := Aside0.mk (hbox); have n4_ := Aside0.mk ((by rw [hg]; exact (qap (hB1_ GE114.out)) : w.heap.size ≤ gb122)); have n5_ := n4_; have n6_ := Aside0.mk ((by rw [hg]; exact Nat.ne_of_lt (blk_lt (g := gb114) (o := .cells #[.int .i64 a0_0, .slice (some ad121) l0_1.length c0_1] 30 (0, 0)) (uB_ BK114.out)) : gb114 ≠ gb122)); have n7_ := Aside0.mk n6_.out.symm; clear HO_3; clear BK114; clear HB; have HO_3 := n0_; have BK114 := n1_; have HB := n2_; have BK122 := n3_; have GW122 := n4_; have GE122 := n5_; have NB114_122 := n6_; have NB122_114 := n7_; clear n0_ n1_ n2_ n3_ n4_ n5_ n6_ n7_; clear hb hbox hg; have hnb25 := NB122_114.out; have hnc25 := NB114_122.out; have hcz26_0 : w24.cell? ⟨gb122, 0, none⟩ = some (.int .i64 0) := (qaa BK122.out 0).trans rfl; have hcz26_1 : w24.cell? ⟨gb122, 1, none⟩ = some (.int .i64 0) := (qaa BK122.out 1).trans rfl; have hfz26_0 := qam BK122.out 0; have hfz26_1 := qam BK122.out 1))
               have n0_ : Aside0 (Kd.S (Kd.slice 4 Kd.bool) 40 ((w24.setCell ⟨gb122, 0, none⟩ (.int .i64 ((rd_T39 l0_1 x22_2).f0))).setCell ⟨gb122, 1, none⟩ (.int .i64 ((rd_T39 l0_1 x22_2).f1))) w.heap.size (fun _ => True) u3 x3_2) := ⟨by (with_reducible repeat (first | apply Kd.S_alloc | apply Kd.S_drewN | apply Kd.S_drew)); exact Kd.S_mono (Kd.S_far (p := ⟨gb122, 1, none⟩) (Kd.S_far (p := ⟨gb122, 0, none⟩) (Kd.S_types HO_3.out BK122.out (by decide)) (fun _ hk => hk.2) (.int .i64 ((rd_T39 l0_1 x22_2).f0))) (fun _ hk => hk.2) (.int .i64 ((rd_T39 l0_1 x22_2).f1))) (fun _ hk => trivial)⟩
               have n1_ : Aside0 (((w24.setCell ⟨gb122, 0, none⟩ (.int .i64 ((rd_T39 l0_1 x22_2).f0))).setCell ⟨gb122, 1, none⟩ (.int .i64 ((rd_T39 l0_1 x22_2).f1))).heap[gb114]? = some (.cells #[.int .i64 a0_0, .slice (some ad121) l0_1.length c0_1] 30 (0, 0))) := ⟨by (with_reducible repeat (first | refine qad ?_ _ | refine qab ?_ | refine qae ?_ _)); refine blk_far ?_ NB114_122.out _; (with_reducible repeat (first | refine qad ?_ _ | refine qab ?_ | refine qae ?_ _)); refine blk_far ?_ NB114_122.out _; (with_reducible repeat (first | refine qad ?_ _ | refine qab ?_ | refine qae ?_ _)); exact BK114.out⟩
               have n2_ : Aside0 (((w24.setCell ⟨gb122, 0, none⟩ (.int .i64 ((rd_T39 l0_1 x22_2).f0))).setCell ⟨gb122, 1, none⟩ (.int .i64 ((rd_T39 l0_1 x22_2).f1))).heap[gb122]? = some (.cells #[.int .i64 ((rd_T39 l0_1 x22_2).f0), .int .i64 ((rd_T39 l0_1 x22_2).f1)] 39 (0, 0))) := ⟨by (with_reducible repeat (first | refine qad ?_ _ | refine qab ?_ | refine qae ?_ _)); refine blk_put (cs := #[.int .i64 ((rd_T39 l0_1 x22_2).f0), .int .i64 0]) ?_ 1 _ rfl; (with_reducible repeat (first | refine qad ?_ _ | refine qab ?_ | refine qae ?_ _)); refine blk_put (cs := #[.int .i64 0, .int .i64 0]) ?_ 0 _ rfl; (with_reducible repeat (first | refine qad ?_ _ | refine qab ?_ | refine qae ?_ _)); exact BK122.out⟩
               have n3_ : Aside0 (Below w.heap.size w ((w24.setCell ⟨gb122, 0, none⟩ (.int .i64 ((rd_T39 l0_1 x22_2).f0))).setCell ⟨gb122, 1, none⟩ (.int .i64 ((rd_T39 l0_1 x22_2).f1)))) := ⟨by repeat (first | (with_reducible first | exact HB.out | apply qal | apply qac | apply qaf | refine qag ?_ GE114.out | refine qag ?_ GE122.out) | exact HB.out)⟩
               (try clear HO_3)
               (try clear BK114)
               (try clear BK122)
               (try clear HB)
               generalize ((w24.setCell ⟨gb122, 0, none⟩ (.int .i64 ((rd_T39 l0_1 x22_2).f0))).setCell ⟨gb122, 1, none⟩ (.int .i64 ((rd_T39 l0_1 x22_2).f1))) = w27 at n0_ n1_ n2_ n3_ ⊢
               have HO_3 := n0_
               have BK114 := n1_
               have BK122 := n2_
               have HB := n3_
               clear n0_ n1_ n2_ n3_
               have n0_ := Aside0.mk (Kd.S_drew HO_3.out)
               have n1_ := Aside0.mk (qab BK114.out)
               have n2_ := Aside0.mk (qab BK122.out)
               have n3_ := Aside0.mk (qaf HB.out)
               clear HO_3
               clear BK114
               clear BK122
               clear HB
               have HO_3 := n0_
               have BK114 := n1_
               have BK122 := n2_
               have HB := n3_
               clear n0_ n1_ n2_ n3_
               obtain ⟨Ao29, co29, eo29⟩ := Kd.S_slice HO_3.out
               (first | subst eo29 | (injection eo29 with f1_ f2_ f3_; have f4_ := f1_.symm; have f5_ := f3_.symm; clear f1_ f2_ f3_; subst f4_; subst f5_))
               have p123 : 0 ≤ (((rd_T39 l0_1 x22_2).f0) : Int) := oD_
               have q123 : ((rd_T39 l0_1 x22_2).f0) < (x3_2.length : Int) := oD_
               obtain ⟨ad123, A123_0, c123_0, e123, hx123_0, hl123_0, hi123_0⟩ := at_L4 (Kd.S_reads' HO_3.out).2.2 ((rd_T39 l0_1 x22_2).f0) p123 q123
               cases e123
               obtain ⟨ce123, hce123, hMe123, hcc123⟩ := Kd.S_get HO_3.out [] ((rd_T39 l0_1 x22_2).f0) p123 (by first | exact q123 | exact oD_ | (have e_ := (Kd.S_reads' HO_3.out).1; omega))
               obtain ⟨ve123_0, rfl, ge123_0⟩ := hMe123
               have hv123_0 := hcc123 0 _ rfl
               rw [Nat.add_zero, show ((Kd.slice 4 Kd.bool)).sz = 1 from rfl, Nat.mul_one] at hv123_0
               replace hv123_0 := Option.some.inj (hv123_0.symm.trans hx123_0)
               rw [hv123_0] at ge123_0
               have HL123_0 := Aside0.mk (show Kd.R Kd.bool 4 _ _ _ _ (rd_L4 x3_2 ((rd_T39 l0_1 x22_2).f0)) from ge123_0)
               clear hv123_0 ge123_0
               have HX123_0 := Aside0.mk hx123_0
               clear hcc123 hce123
               have HR123_0 := Aside0.mk hi123_0
               have HC123_0 := Aside0.mk hl123_0
               clear hi123_0 hl123_0
               replace p123 := eq_true p123
               replace q123 := eq_true q123
               have p20 : 0 ≤ (((rd_T39 l0_1 x22_2).f1) : Int) := oD_
               have q20 : (((rd_T39 l0_1 x22_2).f1) : Int) < (((rd_L4 x3_2 ((rd_T39 l0_1 x22_2).f0)).length : Int) : Int) := oD_
               obtain ⟨go20, co20, eo20, gb20, gl20, cl20, HG20⟩ := Kd.R_form HL123_0.out (by omega)
               (first | cases eo20 | (injection eo20 with ea_ en_ ec_; (first | subst ea_ | (injection ea_ with ea_; subst ea_)); subst ec_; clear en_))
               have GB20 := Aside0.mk gb20
               have GG20 := Aside0.mk HG20
               clear gb20 gl20 HG20
               obtain ⟨hx20_0, hf20_0⟩ := Kd.R_celln false HL123_0.out (((rd_T39 l0_1 x22_2).f1) : Int) p20 q20
               replace p20 := eq_true p20
               replace q20 := eq_true q20
               have hq30 : (((rd_T39 l0_1 x22_2).f0) : Int) < (x3_2.length : Int) := (by have h_ : (((rd_T39 l0_1 x22_2).f0) : Int) < ((x3_2.length : Int) : Int) := oD_; first | exact h_ | (have e_ := (Kd.S_reads' HO_3.out).1; omega) | simpa only [List.length_set, List.length_set] using h_)
               obtain ⟨oki30, ce30, hcl30, hM30, hcc30, hok30, hbk30⟩ := Kd.S_borrow HO_3.out [] (((rd_T39 l0_1 x22_2).f0) : Int) (oD_) (by first | exact hq30 | exact oD_ | (have e_ := (Kd.S_reads' HO_3.out).1; omega))
               obtain ⟨ve30_0, rfl, ge30_0⟩ := hM30
               have hv30 := hcc30 0 _ rfl
               rw [Nat.add_zero, show ((Kd.slice 4 Kd.bool)).sz = 1 from rfl, Nat.mul_one] at hv30
               replace hv30 := Option.some.inj (hv30.symm.trans HX123_0.out)
               subst hv30
               clear hcc30 hcl30
               replace ge30_0 := (show Kd.R Kd.bool 4 _ _ _ _ (rd_L4 x3_2 ((rd_T39 l0_1 x22_2).f0)) from ge30_0)
               have HP30 := Kd.R_putg ge30_0 (((rd_T39 l0_1 x22_2).f1) : Int) true
               rw [← Ny124.out] at HP30
               have HS30 := hbk30 HP30.2 (fun k_ e_ => by injection e_ with e_; subst e_; exact ge30_0.1 _ rfl) (x' := y124) (Kd.M_row HP30.1)
               rw [← Ny126.out] at HS30
               have HQ30 := Aside0.mk HS30
               clear HP30 HS30 hbk30 hok30
               refine start_ (n := 9) (S := fun w' => w'.cell? ⟨gb122, 0, none⟩ = some (.int .i64 ((rd_T39 l0_1 x22_2).f0)) ∧ w'.cell? ⟨gb122, 1, none⟩ = some (.int .i64 ((rd_T39 l0_1 x22_2).f1)) ∧ w'.cell? (ad123.add (((rd_T39 l0_1 x22_2).f0)).toNat) = some (.slice (some ⟨go20, 0, none⟩) (rd_L4 x3_2 ((rd_T39 l0_1 x22_2).f0)).length c123_0)) (ds := [8]) #[fF,fF,fF,fF,fF,fF,fF,fF,fF] (by kernel_rfl) rfl rfl ⟨(qaa BK122.out 0).trans rfl, (qaa BK122.out 1).trans rfl, hx123_0⟩ (fun hHeld => ?_); refine with_tabW spec_paTable.tab9 spec_paTable.bits9 (fun HT_ HW_ => ?_)
               generalize w27.drew = w28 at HO_3 BK114 BK122 HB GG20 HL123_0 HQ30 HR123_0 HX123_0 hf20_0 hx123_0 hx20_0 hHeld ⊢
               refine qan (i := 0) (N := some 26) (v := ?_) (a' := ?_) #[tT,fF,fF,fF,fF,fF,fF,fF,fF] rfl rfl (aO_ HT_.out) (fun _ _ _ h => h) (.inl ⟨by rfl, ?_⟩) ?_ ?_
               rotate_left
               ·intro w'
                go_simp
                with_reducible rfl
               rotate_left
               ·simp only [Act.put, sP_, qai, qaj]
                rfl
               refine qan (i := 1) (N := some 27) (v := ?_) (a' := ?_) #[tT,tT,fF,fF,fF,fF,fF,fF,fF] rfl rfl (aO_ HT_.out) (fun _ _ _ h => h) (.inl ⟨by rfl, ?_⟩) ?_ ?_
               rotate_left
               ·intro w'
                go_simp
                with_reducible rfl
               rotate_left
               ·simp only [Act.put, sP_, qai, qaj]
                rfl
               refine qan (i := 5) (N := some 31) (v := ?_) (a' := ?_) #[tT,tT,fF,fF,fF,tT,fF,fF,fF] rfl rfl (aO_ HT_.out) (fun _ _ _ h => h) (.inl ⟨by rfl, ?_⟩) ?_ ?_
               rotate_left
               ·intro w'
                go_simp
                with_reducible rfl
               rotate_left
               ·simp only [Act.put, sP_, qai, qaj]
                rfl
               refine take_ (i := 2) (N := some 28) (v := ?_) (a' := ?_) #[tT,tT,tT,fF,fF,tT,fF,fF,fF] rfl rfl (qar HT_.out HW_.out (by kernel_rfl)) (fun _ _ _ h => h) (Or.inl ⟨by rfl, ?_⟩) hHeld ?_ ?_
               rotate_left
               ·rintro w' ⟨s0, s1, s2⟩
                go_simp
                with_reducible rfl
               rotate_left
               ·simp only [Act.put, sP_, qai, qaj]
                rfl
               refine qan (i := 3) (N := some 29) (v := ?_) (a' := ?_) #[tT,tT,tT,tT,fF,tT,fF,fF,fF] rfl rfl (aO_ HT_.out) (fun _ _ _ h => h) (.inl ⟨by rfl, ?_⟩) ?_ ?_
               rotate_left
               ·intro w'
                go_simp
                with_reducible rfl
               rotate_left
               ·simp only [Act.put, sP_, qai, qaj]
                rfl
               refine take_ (i := 4) (N := some 30) (v := ?_) (a' := ?_) #[tT,tT,tT,tT,tT,tT,fF,fF,fF] rfl rfl (qar HT_.out HW_.out (by kernel_rfl)) (fun _ _ _ h => h) (Or.inl ⟨by rfl, ?_⟩) hHeld ?_ ?_
               rotate_left
               ·rintro w' ⟨s0, s1, s2⟩
                go_simp
                with_reducible rfl
               rotate_left
               ·simp only [Act.put, sP_, qai, qaj]
                rfl
               refine take_ (i := 6) (N := some 32) (v := ?_) (a' := ?_) #[tT,tT,tT,tT,tT,tT,tT,fF,fF] rfl rfl (qar HT_.out HW_.out (by kernel_rfl)) (fun _ _ _ h => h) (Or.inl ⟨by rfl, ?_⟩) hHeld ?_ ?_
               rotate_left
               ·rintro w' ⟨s0, s1, s2⟩
                go_simp
                with_reducible rfl
               rotate_left
               ·simp only [Act.put, sP_, qai, qaj]
                rfl
               refine qan (i := 7) (N := some 33) (v := ?_) (a' := ?_) #[tT,tT,tT,tT,tT,tT,tT,tT,fF] rfl rfl (aO_ HT_.out) (fun _ _ _ h => h) (.inl ⟨by rfl, ?_⟩) ?_ ?_
               rotate_left
               ·intro w'
                go_simp
                with_reducible rfl
               rotate_left
               ·simp only [Act.put, sP_, qai, qaj]
                rfl
               refine last_ (i := 8) (N := none) #[tT,tT,tT,tT,tT,tT,tT,tT,tT] rfl rfl (one_of HT_.out (by kernel_rfl)) (by decide) (fun K hK => ?_)
               refine skip_ (w1 := ?_) (by rfl) rfl ?_ ?_
               rotate_left
               ·go_simp
                rfl
               refine hK.out _ _ ?_
               clear hK K
               refine done_ (done_of HT_.out (by kernel_rfl)) ?_
               try go_wp2
               have n0_ : Aside0 (Kd.S (Kd.slice 4 Kd.bool) 40 (w28.setCell ⟨go20, (((rd_T39 l0_1 x22_2).f1) : Int).toNat, none⟩ (.bool true)) w.heap.size (fun _ => True) (.slice (some ad123) x3_2.length co29) y126) := ⟨by (with_reducible repeat (first | apply Kd.S_alloc | apply Kd.S_drewN | apply Kd.S_drew)); exact HQ30.out⟩
               have n1_ : Aside0 ((w28.setCell ⟨go20, (((rd_T39 l0_1 x22_2).f1) : Int).toNat, none⟩ (.bool true)).heap[gb114]? = some (.cells #[.int .i64 a0_0, .slice (some ad121) l0_1.length c0_1] 30 (0, 0))) := ⟨by (with_reducible repeat (first | refine qad ?_ _ | refine qab ?_ | refine qae ?_ _)); refine blk_far ?_ (by have h_ := Kd.R_ne HL123_0.out BK114.out (by decide); intro e_; exact h_ (by rw [e_]; rfl)) _; (with_reducible repeat (first | refine qad ?_ _ | refine qab ?_ | refine qae ?_ _)); exact BK114.out⟩
               have n2_ : Aside0 ((w28.setCell ⟨go20, (((rd_T39 l0_1 x22_2).f1) : Int).toNat, none⟩ (.bool true)).heap[gb122]? = some (.cells #[.int .i64 ((rd_T39 l0_1 x22_2).f0), .int .i64 ((rd_T39 l0_1 x22_2).f1)] 39 (0, 0))) := ⟨by (with_reducible repeat (first | refine qad ?_ _ | refine qab ?_ | refine qae ?_ _)); refine blk_far ?_ (by have h_ := Kd.R_ne HL123_0.out BK122.out (by decide); intro e_; exact h_ (by rw [e_]; rfl)) _; (with_reducible repeat (first | refine qad ?_ _ | refine qab ?_ | refine qae ?_ _)); exact BK122.out⟩
               have n3_ : Aside0 (Below w.heap.size w (w28.setCell ⟨go20, (((rd_T39 l0_1 x22_2).f1) : Int).toNat, none⟩ (.bool true))) := ⟨by repeat (first | (with_reducible first | exact HB.out | apply qal | apply qac | apply qaf | refine qag ?_ GB20.out | refine qag ?_ GE114.out | refine qag ?_ GE122.out) | exact HB.out)⟩
               (try clear HO_3)
               (try clear BK114)
               (try clear BK122)
               (try clear HB)
               generalize (w28.setCell ⟨go20, (((rd_T39 l0_1 x22_2).f1) : Int).toNat, none⟩ (.bool true)) = w32 at n0_ n1_ n2_ n3_ ⊢
               have HO_3 := n0_
               have BK114 := n1_
               have BK122 := n2_
               have HB := n3_
               clear n0_ n1_ n2_ n3_
               have n0_ := Aside0.mk (Kd.S_drew HO_3.out)
               have n1_ := Aside0.mk (qab BK114.out)
               have n2_ := Aside0.mk (qab BK122.out)
               have n3_ := Aside0.mk (qaf HB.out)
               clear HO_3
               clear BK114
               clear BK122
               clear HB
               have HO_3 := n0_
               have BK114 := n1_
               have BK122 := n2_
               have HB := n3_
               clear n0_ n1_ n2_ n3_
               have p127 : 0 ≤ (((rd_T39 l0_1 x22_2).f1) : Int) := oD_
               have q127 : ((rd_T39 l0_1 x22_2).f1) < (y126.length : Int) := (by have h_ : (((rd_T39 l0_1 x22_2).f1) : Int) < ((x3_2.length : Int) : Int) := oD_; first | (have e_ := (Kd.S_reads' HO_3.out).1; omega) | simpa only [Ny126.out, List.length_set] using h_)
               have ql127 : ((((rd_T39 l0_1 x22_2).f1) : Int) < ((x3_2.length : Int) : Int)) = True := eq_true (oD_)
               obtain ⟨ad127, A127_0, c127_0, e127, hx127_0, hl127_0, hi127_0⟩ := at_L4 (Kd.S_reads' HO_3.out).2.2 ((rd_T39 l0_1 x22_2).f1) p127 q127
               obtain rfl : ad123 = ad127 := (by injection e127)
               obtain ⟨ce127, hce127, hMe127, hcc127⟩ := Kd.S_get HO_3.out [] ((rd_T39 l0_1 x22_2).f1) p127 (by first | exact q127 | exact oD_ | (have e_ := (Kd.S_reads' HO_3.out).1; omega))
               obtain ⟨ve127_0, rfl, ge127_0⟩ := hMe127
               have hv127_0 := hcc127 0 _ rfl
               rw [Nat.add_zero, show ((Kd.slice 4 Kd.bool)).sz = 1 from rfl, Nat.mul_one] at hv127_0
               replace hv127_0 := Option.some.inj (hv127_0.symm.trans hx127_0)
               rw [hv127_0] at ge127_0
               have HL127_0 := Aside0.mk (show Kd.R Kd.bool 4 _ _ _ _ (rd_L4 y126 ((rd_T39 l0_1 x22_2).f1)) from ge127_0)
               clear hv127_0 ge127_0
               have HX127_0 := Aside0.mk hx127_0
               clear hcc127 hce127
               have HR127_0 := Aside0.mk hi127_0
               have HC127_0 := Aside0.mk hl127_0
               clear hi127_0 hl127_0
               replace p127 := eq_true p127
               replace q127 := eq_true q127
               have p23 : 0 ≤ (((rd_T39 l0_1 x22_2).f0) : Int) := oD_
               have q23 : (((rd_T39 l0_1 x22_2).f0) : Int) < (((rd_L4 y126 ((rd_T39 l0_1 x22_2).f1)).length : Int) : Int) := oD_
               obtain ⟨go23, co23, eo23, gb23, gl23, cl23, HG23⟩ := Kd.R_form HL127_0.out (by omega)
               (first | cases eo23 | (injection eo23 with ea_ en_ ec_; (first | subst ea_ | (injection ea_ with ea_; subst ea_)); subst ec_; clear en_))
               have GB23 := Aside0.mk gb23
               have GG23 := Aside0.mk HG23
               clear gb23 gl23 HG23
               obtain ⟨hx23_0, hf23_0⟩ := Kd.R_celln false HL127_0.out (((rd_T39 l0_1 x22_2).f0) : Int) p23 q23
               replace p23 := eq_true p23
               replace q23 := eq_true q23
               have hq34 : (((rd_T39 l0_1 x22_2).f1) : Int) < (y126.length : Int) := (by have h_ : (((rd_T39 l0_1 x22_2).f1) : Int) < ((x3_2.length : Int) : Int) := oD_; first | exact h_ | (have e_ := (Kd.S_reads' HO_3.out).1; omega) | simpa only [Ny126.out, List.length_set] using h_)
               obtain ⟨oki34, ce34, hcl34, hM34, hcc34, hok34, hbk34⟩ := Kd.S_borrow HO_3.out [] (((rd_T39 l0_1 x22_2).f1) : Int) (oD_) (by first | exact hq34 | exact oD_ | (have e_ := (Kd.S_reads' HO_3.out).1; omega))
               obtain ⟨ve34_0, rfl, ge34_0⟩ := hM34
               have hv34 := hcc34 0 _ rfl
               rw [Nat.add_zero, show ((Kd.slice 4 Kd.bool)).sz = 1 from rfl, Nat.mul_one] at hv34
               replace hv34 := Option.some.inj (hv34.symm.trans HX127_0.out)
               subst hv34
               clear hcc34 hcl34
               replace ge34_0 := (show Kd.R Kd.bool 4 _ _ _ _ (rd_L4 y126 ((rd_T39 l0_1 x22_2).f1)) from ge34_0)
               have HP34 := Kd.R_putg ge34_0 (((rd_T39 l0_1 x22_2).f0) : Int) true
               rw [← Ny128.out] at HP34
               have HS34 := hbk34 HP34.2 (fun k_ e_ => by injection e_ with e_; subst e_; exact ge34_0.1 _ rfl) (x' := y128) (Kd.M_row HP34.1)
               rw [← Ny130.out] at HS34
               have HQ34 := Aside0.mk HS34
               clear HP34 HS34 hbk34 hok34
               refine start_ (n := 9) (S := fun w' => w'.cell? ⟨gb122, 0, none⟩ = some (.int .i64 ((rd_T39 l0_1 x22_2).f0)) ∧ w'.cell? ⟨gb122, 1, none⟩ = some (.int .i64 ((rd_T39 l0_1 x22_2).f1)) ∧ w'.cell? (ad123.add (((rd_T39 l0_1 x22_2).f1)).toNat) = some (.slice (some ⟨go23, 0, none⟩) (rd_L4 y126 ((rd_T39 l0_1 x22_2).f1)).length c127_0)) (ds := [8]) #[fF,fF,fF,fF,fF,fF,fF,fF,fF] (by kernel_rfl) rfl rfl ⟨(qaa BK122.out 0).trans rfl, (qaa BK122.out 1).trans rfl, hx127_0⟩ (fun hHeld => ?_); refine with_tabW spec_paTable.tab10 spec_paTable.bits10 (fun HT_ HW_ => ?_)
               generalize w32.drew = w33 at HO_3 BK114 BK122 HB GG23 HL127_0 HQ30 HQ34 HR127_0 HX127_0 hf23_0 hx127_0 hx23_0 hHeld ⊢
               refine qan (i := 0) (N := some 34) (v := ?_) (a' := ?_) #[tT,fF,fF,fF,fF,fF,fF,fF,fF] rfl rfl (aO_ HT_.out) (fun _ _ _ h => h) (.inl ⟨by rfl, ?_⟩) ?_ ?_
               rotate_left
               ·intro w'
                go_simp
                with_reducible rfl
               rotate_left
               ·simp only [Act.put, sP_, qai, qaj]
                rfl
               refine qan (i := 1) (N := some 35) (v := ?_) (a' := ?_) #[tT,tT,fF,fF,fF,fF,fF,fF,fF] rfl rfl (aO_ HT_.out) (fun _ _ _ h => h) (.inl ⟨by rfl, ?_⟩) ?_ ?_
               rotate_left
               ·intro w'
                go_simp
                with_reducible rfl
               rotate_left
               ·simp only [Act.put, sP_, qai, qaj]
                rfl
               refine qan (i := 5) (N := some 39) (v := ?_) (a' := ?_) #[tT,tT,fF,fF,fF,tT,fF,fF,fF] rfl rfl (aO_ HT_.out) (fun _ _ _ h => h) (.inl ⟨by rfl, ?_⟩) ?_ ?_
               rotate_left
               ·intro w'
                go_simp
                with_reducible rfl
               rotate_left
               ·simp only [Act.put, sP_, qai, qaj]
                rfl
               refine take_ (i := 2) (N := some 36) (v := ?_) (a' := ?_) #[tT,tT,tT,fF,fF,tT,fF,fF,fF] rfl rfl (qar HT_.out HW_.out (by kernel_rfl)) (fun _ _ _ h => h) (Or.inl ⟨by rfl, ?_⟩) hHeld ?_ ?_
               rotate_left
               ·rintro w' ⟨s0, s1, s2⟩
                go_simp
                with_reducible rfl
               rotate_left
               ·simp only [Act.put, sP_, qai, qaj]
                rfl
               refine qan (i := 3) (N := some 37) (v := ?_) (a' := ?_) #[tT,tT,tT,tT,fF,tT,fF,fF,fF] rfl rfl (aO_ HT_.out) (fun _ _ _ h => h) (.inl ⟨by rfl, ?_⟩) ?_ ?_
               rotate_left
               ·intro w'
                go_simp
                with_reducible rfl
               rotate_left
               ·simp only [Act.put, sP_, qai, qaj]
                rfl
               refine take_ (i := 4) (N := some 38) (v := ?_) (a' := ?_) #[tT,tT,tT,tT,tT,tT,fF,fF,fF] rfl rfl (qar HT_.out HW_.out (by kernel_rfl)) (fun _ _ _ h => h) (Or.inl ⟨by rfl, ?_⟩) hHeld ?_ ?_
               rotate_left
               ·rintro w' ⟨s0, s1, s2⟩
                go_simp
                with_reducible rfl
               rotate_left
               ·simp only [Act.put, sP_, qai, qaj]
                rfl
               refine take_ (i := 6) (N := some 40) (v := ?_) (a' := ?_) #[tT,tT,tT,tT,tT,tT,tT,fF,fF] rfl rfl (qar HT_.out HW_.out (by kernel_rfl)) (fun _ _ _ h => h) (Or.inl ⟨by rfl, ?_⟩) hHeld ?_ ?_
               rotate_left
               ·rintro w' ⟨s0, s1, s2⟩
                go_simp
                with_reducible rfl
               rotate_left
               ·simp only [Act.put, sP_, qai, qaj]
                rfl
               refine qan (i := 7) (N := some 41) (v := ?_) (a' := ?_) #[tT,tT,tT,tT,tT,tT,tT,tT,fF] rfl rfl (aO_ HT_.out) (fun _ _ _ h => h) (.inl ⟨by rfl, ?_⟩) ?_ ?_
               rotate_left
               ·intro w'
                go_simp
                with_reducible rfl
               rotate_left
               ·simp only [Act.put, sP_, qai, qaj]
                rfl
               refine last_ (i := 8) (N := none) #[tT,tT,tT,tT,tT,tT,tT,tT,tT] rfl rfl (one_of HT_.out (by kernel_rfl)) (by decide) (fun K hK => ?_)
               refine skip_ (w1 := ?_) (by rfl) rfl ?_ ?_
               rotate_left
               ·go_simp
                rfl
               refine hK.out _ _ ?_
               clear hK K
               refine done_ (done_of HT_.out (by kernel_rfl)) ?_
               try go_wp2
               go_roundg k2
               case measure => have := HK1.out; have := HK2.out; omega
               case rel => exact ⟨(y130), (wrap64 (x22_2 + 1)), rS_, H', ⟨by have := HK1.out; have := HK2.out; omega⟩, ⟨by (with_reducible repeat (first | apply Kd.S_alloc | apply Kd.S_drewN | apply Kd.S_drew)); exact HQ34.out⟩, ⟨by (with_reducible repeat (first | refine qad ?_ _ | refine qab ?_ | refine qae ?_ _)); refine blk_far ?_ (by have h_ := Kd.R_ne HL127_0.out BK114.out (by decide); intro e_; exact h_ (by rw [e_]; rfl)) _; (with_reducible repeat (first | refine qad ?_ _ | refine qab ?_ | refine qae ?_ _)); exact BK114.out⟩, ⟨by repeat (first | (with_reducible first | exact HB.out | apply qal | apply qac | apply qaf | refine qag ?_ GB23.out | refine qag ?_ GE114.out | refine qag ?_ GE122.out) | exact HB.out)⟩⟩
              ·rw [if_neg c22] at H
               exact absurd H (by simp)
             ·rw [if_neg c21] at H
              exact absurd H (by simp)
            ·rw [if_neg c19] at H
             exact absurd H (by simp)
           ·rw [if_neg c18] at H
            exact absurd H (by simp)
          ·rw [if_neg c17] at H
           exact absurd H (by simp)
         ·rw [if_neg c16] at H
          exact absurd H (by simp)
        ·rw [if_neg c15] at H
         exact absurd H (by simp)
       ·rw [if_neg c14] at H
        exact absurd H (by simp)
      ·rw [if_neg c13] at H
       have c13b0 : decide (x22_2 < (l0_1.length : Int)) = false := decide_eq_false c13
       clear c13
       obtain rfl := Option.some.inj H
       go_wp2
       go_ret
       exact ⟨_, by first | rfl | (simp [errW_none, errW_some] <;> rfl) | (simp [*, errW_none, errW_some] <;> rfl), by (with_reducible repeat (first | apply Kd.S_alloc | apply Kd.S_drewN | apply Kd.S_drew)); exact HO_3.out, by repeat (first | (with_reducible first | exact HB.out | apply qal | apply qac | apply qaf | refine qag ?_ GE114.out) | exact HB.out)⟩

end Go.Proofs.YtbamgkgcoedliaaDoor.Q
