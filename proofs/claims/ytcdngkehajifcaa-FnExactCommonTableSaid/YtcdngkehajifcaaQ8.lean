-- Written by wip/tools/gprint.py (the kit's print, with contracts of this session): Lean checks it.
import Derived.Test.YtcdngkehajifcaaQ0
namespace Go.Proofs.Ytcdngkehajifcaa.Q
open Go.RowKit Go.Proofs.YtcdngkehajifcaaW.PrintWords Go.Proofs.YtcdngkehajifcaaW.PrintLast Go.Proofs.YtcdngkehajifcaaW.PrintMore
attribute [local go_sem] max2_int min2_int max_two min_two max_three min_three max_four min_four   -- for this text's walks alone
set_option linter.unusedVariables false
set_option linter.unusedSimpArgs false

/-! ### spec_cfCommon: function 66 -/
def spec_cfCommon.l0 : Nat → List (List Bool) → Int → Int → List Int → Int → Int → Option (List Int)
 | 0, _, _, _, _, _, _ => none
 | k + 1, x0, x1, x2, x7, x10, x11 => if x11 < x10 then (if 0 ≤ x1 then (if x1 < (x0.length : Int) then (if 0 ≤ x11 then (if x11 < ((rd_L4 x0 x1).length : Int) then (if rdOf false (rd_L4 x0 x1) x11 = true then (if 0 ≤ x2 then (if x2 < (x0.length : Int) then (if x11 < ((rd_L4 x0 x2).length : Int) then (if rdOf false (rd_L4 x0 x2) x11 = true then (if x7.length < 17592186044416 then (spec_cfCommon.l0 k x0 x1 x2 (x7 ++ [x11]) x10 (wrap64 (x11 + 1))) else (none)) else (spec_cfCommon.l0 k x0 x1 x2 x7 x10 (wrap64 (x11 + 1)))) else (none)) else (none)) else (none)) else (spec_cfCommon.l0 k x0 x1 x2 x7 x10 (wrap64 (x11 + 1)))) else (none)) else (none)) else (none)) else (none)) else (some x7)
def spec_cfCommon.f (k : Nat) (l0 : List (List Bool)) (a1 : Int) (a2 : Int) : Option (List Int) := spec_cfCommon.l0 k l0 a1 a2 ([] : List Int) (l0.length : Int) 0
theorem spec_cfCommon.mono_l : ∀ k, (∀ y0 y1 y2 y3 y4 y5, LeO (spec_cfCommon.l0 k y0 y1 y2 y3 y4 y5) (spec_cfCommon.l0 (k + 1) y0 y1 y2 y3 y4 y5))
 | 0 => fun _ _ _ _ _ _ r h => by simp [spec_cfCommon.l0] at h
 | k + 1 => by
  have ih0 := spec_cfCommon.mono_l k
  ·intro y0 y1 y2 y3 y4 y5
   unfold spec_cfCommon.l0
   repeat' first
   | (with_reducible exact ih0 _ _ _ _ _ _)
   | (with_reducible exact LeO.refl _)
   | (with_reducible exact LeO.none _)
   | (with_reducible refine LeO.ite ?_ ?_)
   | (with_reducible refine LeO.bind ?_ (fun _ => ?_))
   | exact ih0 _ _ _ _ _ _
   | exact LeO.none _
   | refine LeO.ite ?_ ?_
   | refine LeO.bind ?_ (fun _ => ?_)
theorem spec_cfCommon.mono : ∀ a0 a1 a2 k, LeO (spec_cfCommon.f k a0 a1 a2) (spec_cfCommon.f (k + 1) a0 a1 a2) := by
 intro a0 a1 a2 k
 have ih0 := spec_cfCommon.mono_l k
 unfold spec_cfCommon.f
 repeat' first
   | (with_reducible exact ih0 _ _ _ _ _ _)
   | (with_reducible exact LeO.refl _)
   | (with_reducible exact LeO.none _)
   | (with_reducible refine LeO.ite ?_ ?_)
   | (with_reducible refine LeO.bind ?_ (fun _ => ?_))
   | exact ih0 _ _ _ _ _ _
   | exact LeO.none _
   | refine LeO.ite ?_ ?_
   | refine LeO.bind ?_ (fun _ => ?_)
set_option maxHeartbeats 8000000 in
set_option maxRecDepth 100000 in
theorem spec_cfCommon.calls (k : Nat) (A0 : Option Addr) (c0 : Nat) (l0 : List (List Bool)) (a1 : Int) (a2 : Int) (r : List Int) (w : World) (hr0 : Kd.C (Kd.slice 4 Kd.bool) w A0 l0.length l0) (hc0 : l0.length ≤ c0) (h : spec_cfCommon.f k l0 a1 a2 = some r) :
  Calls Try.prog 66 #[.slice A0 l0.length c0, .int .i64 a1, .int .i64 a2] w fun e w' => ∃ v0_ : Value, e = .returned (v0_) ∧ Kd.R (Kd.int .i64) 3 w' w.heap.size (fun _ => True) v0_ r ∧ Below w.heap.size w w' := by
 have HR0 := Aside0.mk hr0
 have HC0 := Aside0.mk hc0
 clear hr0 hc0
 have HB := Aside0.mk (Below.refl w.heap.size w)
 have H : (spec_cfCommon.l0 k l0 a1 a2 ([] : List Int) (l0.length : Int) 0) = some r := h
 clear h
 have H' := Aside0.mk H
 clear H
 go_enter Try.func66, Try.ntmps66
 go_wp2
 go_loopg [7, 11] k (fun kq v7 v11 w' => ∃ (x7_1 : List Int) (x11_1 : Int), v11 = .int .i64 x11_1 ∧ Aside0 (spec_cfCommon.l0 kq l0 a1 a2 x7_1 (l0.length : Int) x11_1 = some r) ∧ Aside0 (kq ≤ k) ∧ Aside0 (Kd.R (Kd.int .i64) 3 w' w.heap.size (fun _ => True) v7 x7_1) ∧ Aside0 (Below w.heap.size w w'))
 case atStart => exact ⟨(([] : List Int)), (0), (by first | rfl | (simp; done) | (simp [*]; done)), H', ⟨Nat.le_refl _⟩, ⟨by first | exact Kd.R_nil _ _ _ _ _ | exact Kd.N_nil _ _ _ _ _ | exact Kd.V_nil _ _ _ _ _ | exact Kd.Q_nil _ _ _ _ _ | exact Kd.S_nil _ _ _ _ _⟩, ⟨by repeat (first | (with_reducible first | exact HB.out | apply below_alloc | apply pw_below_drewN | apply below_drew1) | exact HB.out)⟩⟩
 case round =>
  clear H'
  try clear p2
  obtain ⟨x7_1, x11_1, rfl, HA, HK1, HO_7, HB⟩ := hrel
  cases gk with
  | zero => exact absurd HA.out (by simp [spec_cfCommon.l0])
  | succ k1 =>
   have H := HA.out
   clear HA
   simp only [spec_cfCommon.l0] at H
   by_cases c4 : x11_1 < (l0.length : Int)
   ·rw [if_pos c4] at H
    have c4b0 : decide (x11_1 < (l0.length : Int)) = true := decide_eq_true c4
    clear c4
    by_cases c5 : 0 ≤ a1
    ·rw [if_pos c5] at H
     have c5b0 : decide (0 ≤ a1) = true := decide_eq_true c5
     clear c5
     by_cases c6 : a1 < (l0.length : Int)
     ·rw [if_pos c6] at H
      have c6b0 : decide (a1 < (l0.length : Int)) = true := decide_eq_true c6
      clear c6
      by_cases c7 : 0 ≤ x11_1
      ·rw [if_pos c7] at H
       have c7b0 : decide (0 ≤ x11_1) = true := decide_eq_true c7
       clear c7
       by_cases c8 : x11_1 < ((rd_L4 l0 a1).length : Int)
       ·rw [if_pos c8] at H
        have c8b0 : decide (x11_1 < ((rd_L4 l0 a1).length : Int)) = true := decide_eq_true c8
        clear c8
        obtain ⟨bq9, hbq9⟩ : ∃ b_ : Bool, b_ = (rdOf false (rd_L4 l0 a1) x11_1) := ⟨_, rfl⟩
        replace H : (if bq9 = true then (if 0 ≤ a2 then (if a2 < (l0.length : Int) then (if x11_1 < ((rd_L4 l0 a2).length : Int) then (if rdOf false (rd_L4 l0 a2) x11_1 = true then (if x7_1.length < 17592186044416 then (spec_cfCommon.l0 k1 l0 a1 a2 (x7_1 ++ [x11_1]) (l0.length : Int) (wrap64 (x11_1 + 1))) else (none)) else (spec_cfCommon.l0 k1 l0 a1 a2 x7_1 (l0.length : Int) (wrap64 (x11_1 + 1)))) else (none)) else (none)) else (none)) else (spec_cfCommon.l0 k1 l0 a1 a2 x7_1 (l0.length : Int) (wrap64 (x11_1 + 1)))) = some r := by rw [← hbq9] at H; exact H
        have Nbq9 := Aside0.mk hbq9
        clear hbq9
        by_cases c10 : bq9 = true
        ·subst c10
         have H1 : (if 0 ≤ a2 then (if a2 < (l0.length : Int) then (if x11_1 < ((rd_L4 l0 a2).length : Int) then (if rdOf false (rd_L4 l0 a2) x11_1 = true then (if x7_1.length < 17592186044416 then (spec_cfCommon.l0 k1 l0 a1 a2 (x7_1 ++ [x11_1]) (l0.length : Int) (wrap64 (x11_1 + 1))) else (none)) else (spec_cfCommon.l0 k1 l0 a1 a2 x7_1 (l0.length : Int) (wrap64 (x11_1 + 1)))) else (none)) else (none)) else (none)) = some r := by rw [if_pos rfl] at H; exact H
         clear H
         have H := H1
         clear H1
         by_cases c11 : 0 ≤ a2
         ·rw [if_pos c11] at H
          have c11b0 : decide (0 ≤ a2) = true := decide_eq_true c11
          clear c11
          by_cases c12 : a2 < (l0.length : Int)
          ·rw [if_pos c12] at H
           have c12b0 : decide (a2 < (l0.length : Int)) = true := decide_eq_true c12
           clear c12
           by_cases c13 : x11_1 < ((rd_L4 l0 a2).length : Int)
           ·rw [if_pos c13] at H
            have c13b0 : decide (x11_1 < ((rd_L4 l0 a2).length : Int)) = true := decide_eq_true c13
            clear c13
            obtain ⟨bq14, hbq14⟩ : ∃ b_ : Bool, b_ = (rdOf false (rd_L4 l0 a2) x11_1) := ⟨_, rfl⟩
            replace H : (if bq14 = true then (if x7_1.length < 17592186044416 then (spec_cfCommon.l0 k1 l0 a1 a2 (x7_1 ++ [x11_1]) (l0.length : Int) (wrap64 (x11_1 + 1))) else (none)) else (spec_cfCommon.l0 k1 l0 a1 a2 x7_1 (l0.length : Int) (wrap64 (x11_1 + 1)))) = some r := by rw [← hbq14] at H; exact H
            have Nbq14 := Aside0.mk hbq14
            clear hbq14
            by_cases c15 : bq14 = true
            ·subst c15
             have H1 : (if x7_1.length < 17592186044416 then (spec_cfCommon.l0 k1 l0 a1 a2 (x7_1 ++ [x11_1]) (l0.length : Int) (wrap64 (x11_1 + 1))) else (none)) = some r := by rw [if_pos rfl] at H; exact H
             clear H
             have H := H1
             clear H1
             by_cases c16 : x7_1.length < 17592186044416
             ·rw [if_pos c16] at H
              have LMc16 := Aside0.mk c16
              clear c16
              obtain ⟨y135, hy135⟩ : ∃ y_ : List Int, y_ = (x7_1 ++ [x11_1]) := ⟨_, rfl⟩
              replace H : (spec_cfCommon.l0 k1 l0 a1 a2 y135 (l0.length : Int) (wrap64 (x11_1 + 1))) = some r := by first | (rw [hy135]; with_reducible exact H) | (have H2_ := (Option.bind_some _ _).symm.trans H; rw [hy135]; with_reducible exact H2_) | (have H2_ := (Option.bind_some _ _).symm.trans H; with_reducible exact H2_) | with_reducible exact H | (rw [hy135]; exact H) | exact H
              have Ny135 := Aside0.mk hy135
              clear hy135
              have H' := Aside0.mk H
              clear H
              have p131 : 0 ≤ (a1 : Int) := of_decide_eq_true (by first | (with_reducible assumption) | assumption)
              have q131 : a1 < (l0.length : Int) := of_decide_eq_true (by first | (with_reducible assumption) | assumption)
              obtain ⟨ad131, A131_0, c131_0, e131, hx131_0, hl131_0, hi131_0⟩ := at_L4 HR0.out a1 p131 q131
              cases e131
              (try (replace hx131_0 := (HB.out.cell (World.block_lt_of_cell? w _ hx131_0)).trans hx131_0))
              have HR131_0 := Aside0.mk hi131_0
              have HC131_0 := Aside0.mk hl131_0
              clear hi131_0 hl131_0
              replace p131 := eq_true p131
              replace q131 := eq_true q131
              have p132 : 0 ≤ (x11_1 : Int) := of_decide_eq_true (by first | (with_reducible assumption) | assumption)
              have q132 : x11_1 < ((rd_L4 l0 a1).length : Int) := of_decide_eq_true (by first | (with_reducible assumption) | assumption)
              obtain ⟨ad132, e132, hx132_0⟩ := Kd.at_bool HR131_0.out x11_1 p132 q132
              (try rw [← Nbq9.out] at hx132_0)
              (try rw [← Nbq14.out] at hx132_0)
              cases e132
              (try (replace hx132_0 := (HB.out.cell (World.block_lt_of_cell? w _ hx132_0)).trans hx132_0))
              replace p132 := eq_true p132
              replace q132 := eq_true q132
              have p133 : 0 ≤ (a2 : Int) := of_decide_eq_true (by first | (with_reducible assumption) | assumption)
              have q133 : a2 < (l0.length : Int) := of_decide_eq_true (by first | (with_reducible assumption) | assumption)
              obtain ⟨ad133, A133_0, c133_0, e133, hx133_0, hl133_0, hi133_0⟩ := at_L4 HR0.out a2 p133 q133
              obtain rfl : ad131 = ad133 := (by injection e133)
              (try (replace hx133_0 := (HB.out.cell (World.block_lt_of_cell? w _ hx133_0)).trans hx133_0))
              have HR133_0 := Aside0.mk hi133_0
              have HC133_0 := Aside0.mk hl133_0
              clear hi133_0 hl133_0
              replace p133 := eq_true p133
              replace q133 := eq_true q133
              have p134 : 0 ≤ (x11_1 : Int) := of_decide_eq_true (by first | (with_reducible assumption) | assumption)
              have q134 : x11_1 < ((rd_L4 l0 a2).length : Int) := of_decide_eq_true (by first | (with_reducible assumption) | assumption)
              obtain ⟨ad134, e134, hx134_0⟩ := Kd.at_bool HR133_0.out x11_1 p134 q134
              (try rw [← Nbq9.out] at hx134_0)
              (try rw [← Nbq14.out] at hx134_0)
              cases e134
              (try (replace hx134_0 := (HB.out.cell (World.block_lt_of_cell? w _ hx134_0)).trans hx134_0))
              replace p134 := eq_true p134
              replace q134 := eq_true q134
              go_wp2_with (first | ((with_reducible refine gate_builtin (b := .append) (xs := #[.tmp 30, .tmp 32]) rfl ?_); at_builtin; refine Kd.R_append (Kd.int .i64) (w0 := w) w.heap.size rfl (.tmp 30) (.tmp 32) 22 3 (.int .i64 0) 8 rfl Try.underlying22 info3 rfl (by decide) (by omega) u7 x7_1 x11_1 [.int .i64 x11_1] (fun _ => True) (fun _ => False) rfl rfl ?aP (fun _ hk => hk.elim) ?aF ?aO ?aB ?aS ?aL ?_; (case aP => exact rfl); (case aB => exact (by repeat (first | (with_reducible first | exact HB.out | apply below_alloc | apply pw_below_drewN | apply below_drew1) | exact HB.out))); (case aF => exact (fun _ _ => trivial)); (case aO => exact (by (with_reducible repeat (first | apply Kd.R_alloc | apply Kd.R_drewN | apply Kd.R_drew)); exact HO_7.out)); (case aS => exact (below_size (by repeat (first | (with_reducible first | exact HB.out | apply below_alloc | apply pw_below_drewN | apply below_drew1) | exact HB.out)))); (case aL => have := LMc16.out; omega); intro v136 w17 ho hb hg hat; rw [← Ny135.out] at ho; have n0_ := Aside0.mk (hb); have n1_ := Aside0.mk (ho); clear HB; clear HO_7; have HB := n0_; have HO137 := n1_; clear n0_ n1_; clear ho hb hg hat))
              go_roundg k1
              case measure => have := HK1.out; omega
              case rel => exact ⟨(y135), (wrap64 (x11_1 + 1)), (by first | rfl | (simp; done) | (simp [*]; done)), H', ⟨by have := HK1.out; omega⟩, ⟨by (with_reducible repeat (first | apply Kd.R_alloc | apply Kd.R_drewN | apply Kd.R_drew)); exact HO137.out⟩, ⟨by repeat (first | (with_reducible first | exact HB.out | apply below_alloc | apply pw_below_drewN | apply below_drew1) | exact HB.out)⟩⟩
             ·rw [if_neg c16] at H
              exact absurd H (by simp)
            ·replace c15 := Bool.eq_false_iff.mpr c15
             subst c15
             have H1 : (spec_cfCommon.l0 k1 l0 a1 a2 x7_1 (l0.length : Int) (wrap64 (x11_1 + 1))) = some r := by rw [if_neg (show ¬ (false = true) by decide)] at H; exact H
             clear H
             have H := H1
             clear H1
             have H' := Aside0.mk H
             clear H
             have p131 : 0 ≤ (a1 : Int) := of_decide_eq_true (by first | (with_reducible assumption) | assumption)
             have q131 : a1 < (l0.length : Int) := of_decide_eq_true (by first | (with_reducible assumption) | assumption)
             obtain ⟨ad131, A131_0, c131_0, e131, hx131_0, hl131_0, hi131_0⟩ := at_L4 HR0.out a1 p131 q131
             cases e131
             (try (replace hx131_0 := (HB.out.cell (World.block_lt_of_cell? w _ hx131_0)).trans hx131_0))
             have HR131_0 := Aside0.mk hi131_0
             have HC131_0 := Aside0.mk hl131_0
             clear hi131_0 hl131_0
             replace p131 := eq_true p131
             replace q131 := eq_true q131
             have p132 : 0 ≤ (x11_1 : Int) := of_decide_eq_true (by first | (with_reducible assumption) | assumption)
             have q132 : x11_1 < ((rd_L4 l0 a1).length : Int) := of_decide_eq_true (by first | (with_reducible assumption) | assumption)
             obtain ⟨ad132, e132, hx132_0⟩ := Kd.at_bool HR131_0.out x11_1 p132 q132
             (try rw [← Nbq9.out] at hx132_0)
             (try rw [← Nbq14.out] at hx132_0)
             cases e132
             (try (replace hx132_0 := (HB.out.cell (World.block_lt_of_cell? w _ hx132_0)).trans hx132_0))
             replace p132 := eq_true p132
             replace q132 := eq_true q132
             have p133 : 0 ≤ (a2 : Int) := of_decide_eq_true (by first | (with_reducible assumption) | assumption)
             have q133 : a2 < (l0.length : Int) := of_decide_eq_true (by first | (with_reducible assumption) | assumption)
             obtain ⟨ad133, A133_0, c133_0, e133, hx133_0, hl133_0, hi133_0⟩ := at_L4 HR0.out a2 p133 q133
             obtain rfl : ad131 = ad133 := (by injection e133)
             (try (replace hx133_0 := (HB.out.cell (World.block_lt_of_cell? w _ hx133_0)).trans hx133_0))
             have HR133_0 := Aside0.mk hi133_0
             have HC133_0 := Aside0.mk hl133_0
             clear hi133_0 hl133_0
             replace p133 := eq_true p133
             replace q133 := eq_true q133
             have p134 : 0 ≤ (x11_1 : Int) := of_decide_eq_true (by first | (with_reducible assumption) | assumption)
             have q134 : x11_1 < ((rd_L4 l0 a2).length : Int) := of_decide_eq_true (by first | (with_reducible assumption) | assumption)
             obtain ⟨ad134, e134, hx134_0⟩ := Kd.at_bool HR133_0.out x11_1 p134 q134
             (try rw [← Nbq9.out] at hx134_0)
             (try rw [← Nbq14.out] at hx134_0)
             cases e134
             (try (replace hx134_0 := (HB.out.cell (World.block_lt_of_cell? w _ hx134_0)).trans hx134_0))
             replace p134 := eq_true p134
             replace q134 := eq_true q134
             go_wp2
             go_roundg k1
             case measure => have := HK1.out; omega
             case rel => exact ⟨(x7_1), (wrap64 (x11_1 + 1)), (by first | rfl | (simp; done) | (simp [*]; done)), H', ⟨by have := HK1.out; omega⟩, ⟨by (with_reducible repeat (first | apply Kd.R_alloc | apply Kd.R_drewN | apply Kd.R_drew)); exact HO_7.out⟩, ⟨by repeat (first | (with_reducible first | exact HB.out | apply below_alloc | apply pw_below_drewN | apply below_drew1) | exact HB.out)⟩⟩
           ·rw [if_neg c13] at H
            exact absurd H (by simp)
          ·rw [if_neg c12] at H
           exact absurd H (by simp)
         ·rw [if_neg c11] at H
          exact absurd H (by simp)
        ·replace c10 := Bool.eq_false_iff.mpr c10
         subst c10
         have H1 : (spec_cfCommon.l0 k1 l0 a1 a2 x7_1 (l0.length : Int) (wrap64 (x11_1 + 1))) = some r := by rw [if_neg (show ¬ (false = true) by decide)] at H; exact H
         clear H
         have H := H1
         clear H1
         have H' := Aside0.mk H
         clear H
         have p131 : 0 ≤ (a1 : Int) := of_decide_eq_true (by first | (with_reducible assumption) | assumption)
         have q131 : a1 < (l0.length : Int) := of_decide_eq_true (by first | (with_reducible assumption) | assumption)
         obtain ⟨ad131, A131_0, c131_0, e131, hx131_0, hl131_0, hi131_0⟩ := at_L4 HR0.out a1 p131 q131
         cases e131
         (try (replace hx131_0 := (HB.out.cell (World.block_lt_of_cell? w _ hx131_0)).trans hx131_0))
         have HR131_0 := Aside0.mk hi131_0
         have HC131_0 := Aside0.mk hl131_0
         clear hi131_0 hl131_0
         replace p131 := eq_true p131
         replace q131 := eq_true q131
         have p132 : 0 ≤ (x11_1 : Int) := of_decide_eq_true (by first | (with_reducible assumption) | assumption)
         have q132 : x11_1 < ((rd_L4 l0 a1).length : Int) := of_decide_eq_true (by first | (with_reducible assumption) | assumption)
         obtain ⟨ad132, e132, hx132_0⟩ := Kd.at_bool HR131_0.out x11_1 p132 q132
         (try rw [← Nbq9.out] at hx132_0)
         cases e132
         (try (replace hx132_0 := (HB.out.cell (World.block_lt_of_cell? w _ hx132_0)).trans hx132_0))
         replace p132 := eq_true p132
         replace q132 := eq_true q132
         go_wp2
         go_roundg k1
         case measure => have := HK1.out; omega
         case rel => exact ⟨(x7_1), (wrap64 (x11_1 + 1)), (by first | rfl | (simp; done) | (simp [*]; done)), H', ⟨by have := HK1.out; omega⟩, ⟨by (with_reducible repeat (first | apply Kd.R_alloc | apply Kd.R_drewN | apply Kd.R_drew)); exact HO_7.out⟩, ⟨by repeat (first | (with_reducible first | exact HB.out | apply below_alloc | apply pw_below_drewN | apply below_drew1) | exact HB.out)⟩⟩
       ·rw [if_neg c8] at H
        exact absurd H (by simp)
      ·rw [if_neg c7] at H
       exact absurd H (by simp)
     ·rw [if_neg c6] at H
      exact absurd H (by simp)
    ·rw [if_neg c5] at H
     exact absurd H (by simp)
   ·rw [if_neg c4] at H
    have c4b0 : decide (x11_1 < (l0.length : Int)) = false := decide_eq_false c4
    clear c4
    obtain rfl := Option.some.inj H
    go_wp2
    go_ret
    exact ⟨_, by first | rfl | (simp [errW_none, errW_some] <;> rfl) | (simp [*, errW_none, errW_some] <;> rfl), by (with_reducible repeat (first | apply Kd.R_alloc | apply Kd.R_drewN | apply Kd.R_drew)); exact HO_7.out, by repeat (first | (with_reducible first | exact HB.out | apply below_alloc | apply pw_below_drewN | apply below_drew1) | exact HB.out)⟩

end Go.Proofs.Ytcdngkehajifcaa.Q
