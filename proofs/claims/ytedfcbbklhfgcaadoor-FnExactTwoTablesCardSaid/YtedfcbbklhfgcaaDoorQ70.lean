import Derived.Test.YtedfcbbklhfgcaaDoorQ0
import Derived.Test.YtedfcbbklhfgcaaDoorQ21
import Derived.Test.YtedfcbbklhfgcaaDoorQ24
import Derived.Test.YtedfcbbklhfgcaaDoorQ57
import Derived.Test.YtedfcbbklhfgcaaDoorQ10
import Derived.Test.YtedfcbbklhfgcaaDoorQ6
import Derived.Test.YtedfcbbklhfgcaaDoorQ54
import Derived.Test.YtedfcbbklhfgcaaDoorQ2
import Derived.Test.YtedfcbbklhfgcaaDoorQ14
import Derived.Test.YtedfcbbklhfgcaaDoorQ35
import Derived.Test.YtedfcbbklhfgcaaDoorQ59
import Derived.Test.YtedfcbbklhfgcaaDoorQ61
import Derived.Test.YtedfcbbklhfgcaaDoorQ62
import Derived.Test.YtedfcbbklhfgcaaDoorQ63
namespace Go.Proofs.YtedfcbbklhfgcaaDoor.Q
open Go.RowKit Go.Proofs.YtedfcbbklhfgcaaDoorW.PrintWords Go.Proofs.YtedfcbbklhfgcaaDoorW.PrintLast Go.Proofs.YtedfcbbklhfgcaaDoorW.PrintMore
attribute [local go_sem] max2_int min2_int max_two min_two max_three min_three max_four min_four   -- for this text's walks alone
set_option linter.unusedVariables false
set_option linter.unusedSimpArgs false

/-! ### impl_table_others: function 47 -/
def impl_table_others.l0 : Nat → List Int → List Int → Int → Int → Option (List Int)
 | 0, _, _, _, _ => none
 | k + 1, x0, x3, x9, x10 => if x10 < x9 then (if 0 ≤ x10 then (if x10 < (x0.length : Int) then (if x10 < (x3.length : Int) then (impl_table_others.l0 k x0 (x3.set (x10 : Int).toNat (Go.bits .andNot .u16 (Go.bits .andNot .u16 (IntKind.u16.wrap ((shl .u16 1 (x0.length : Int)) - 1)) (rd x0 x10)) (shl .u16 1 x10))) x9 (wrap64 (x10 + 1))) else (none)) else (none)) else (none)) else (some x3)
def impl_table_others.f (k : Nat) (l0 : List Int) : Option (List Int) := if 0 ≤ (l0.length : Int) then (if ((l0.length : Int) : Int).toNat ≤ 140737488355328 then (impl_table_others.l0 k l0 (List.replicate ((l0.length : Int) : Int).toNat 0) (l0.length : Int) 0) else (none)) else (none)
theorem impl_table_others.mono_l : ∀ k, (∀ y0 y1 y2 y3, LeO (impl_table_others.l0 k y0 y1 y2 y3) (impl_table_others.l0 (k + 1) y0 y1 y2 y3))
 | 0 => fun _ _ _ _ r h => by simp [impl_table_others.l0] at h
 | k + 1 => by
  have ih0 := impl_table_others.mono_l k
  ·intro y0 y1 y2 y3
   unfold impl_table_others.l0
   repeat' first
   | (with_reducible exact ih0 _ _ _ _)
   | (with_reducible exact LeO.refl _)
   | (with_reducible exact LeO.none _)
   | (with_reducible refine LeO.ite ?_ ?_)
   | (with_reducible refine LeO.bind ?_ (fun _ => ?_))
   | exact ih0 _ _ _ _
   | exact LeO.none _
   | refine LeO.ite ?_ ?_
   | refine LeO.bind ?_ (fun _ => ?_)
theorem impl_table_others.mono : ∀ a0 k, LeO (impl_table_others.f k a0) (impl_table_others.f (k + 1) a0) := by
 intro a0 k
 have ih0 := impl_table_others.mono_l k
 unfold impl_table_others.f
 repeat' first
   | (with_reducible exact ih0 _ _ _ _)
   | (with_reducible exact LeO.refl _)
   | (with_reducible exact LeO.none _)
   | (with_reducible refine LeO.ite ?_ ?_)
   | (with_reducible refine LeO.bind ?_ (fun _ => ?_))
   | exact ih0 _ _ _ _
   | exact LeO.none _
   | refine LeO.ite ?_ ?_
   | refine LeO.bind ?_ (fun _ => ?_)
def impl_table_others.T5 : Bool × List (List Nat × List Nat) := (true, [([], []), ([], []), ([], []), ([2], [2]), ([3], [3]), ([4], [4]), ([], []), ([], []), ([6, 7], [6, 7]), ([8], [8]), ([5, 9], [5, 9]), ([], []), ([11], [11]), ([10, 12], [10, 12]), ([0, 1, 0, 1, 2, 3, 4, 5, 6, 7, 8, 9, 10, 11, 12, 13], [0, 1]), ([14, 13, 0, 1, 2, 3, 4, 5, 6, 7, 8, 9, 10, 11, 12, 13], [13, 14])])
def impl_table_others.B5 : List Nat := [0, 0, 0, 4, 12, 28, 0, 0, 192, 448, 1020, 0, 2048, 8188, 16383, 32767]
theorem impl_table_others.tab5 : rtab .any (opsOf Tryd.f47 5) = impl_table_others.T5 := by kernel_rfl
theorem impl_table_others.bits5 : waitsOk impl_table_others.T5.2 impl_table_others.B5 = true := by kernel_rfl
set_option maxHeartbeats 8000000 in
set_option maxRecDepth 100000 in
theorem impl_table_others.calls (k : Nat) (A0 : Option Addr) (c0 : Nat) (l0 : List Int) (r : List Int) (w : World) (hr0 : Kd.C (Kd.int .u16) w A0 l0.length l0) (hc0 : l0.length ≤ c0) (h : impl_table_others.f k l0 = some r) :
  Calls Tryd.prog 47 #[.slice A0 l0.length c0] w fun e w' => ∃ v0_ : Value, e = .returned (v0_) ∧ Kd.R (Kd.int .u16) 72 w' w.heap.size (fun _ => True) v0_ r ∧ Below w.heap.size w w' := by
 have HR0 := Aside0.mk hr0
 have HC0 := Aside0.mk hc0
 clear hr0 hc0
 have HB := Aside0.mk (Below.refl w.heap.size w)
 have H : (if 0 ≤ (l0.length : Int) then (if ((l0.length : Int) : Int).toNat ≤ 140737488355328 then (impl_table_others.l0 k l0 (List.replicate ((l0.length : Int) : Int).toNat 0) (l0.length : Int) 0) else (none)) else (none)) = some r := h
 clear h
 by_cases c2 : 0 ≤ (l0.length : Int)
 ·rw [if_pos c2] at H
  have c2b0 := eq_true c2
  have c2b1 : decide (0 ≤ (l0.length : Int)) = true := decide_eq_true c2
  clear c2
  by_cases c3 : ((l0.length : Int) : Int).toNat ≤ 140737488355328
  ·rw [if_pos c3] at H
   have c3b0 := eq_true c3
   have c3b1 : decide (((l0.length : Int) : Int).toNat ≤ 140737488355328) = true := decide_eq_true c3
   clear c3
   obtain ⟨y630, hy630⟩ : ∃ y_ : List Int, y_ = (List.replicate ((l0.length : Int) : Int).toNat 0) := ⟨_, rfl⟩
   replace H : (impl_table_others.l0 k l0 y630 (l0.length : Int) 0) = some r := by first | (rw [hy630]; with_reducible exact H) | (have H2_ := (Option.bind_some _ _).symm.trans H; rw [hy630]; with_reducible exact H2_) | (have H2_ := (Option.bind_some _ _).symm.trans H; with_reducible exact H2_) | with_reducible exact H | (rw [hy630]; exact H) | exact H
   have Ny630 := Aside0.mk hy630
   clear hy630
   have H' := Aside0.mk H
   clear H
   go_enter Tryd.func47, Tryd.ntmps47
   go_wp2_with (first | ((with_reducible refine gate_dst (N := 7) rfl ?_); refine Kd.R_make (Kd.int .u16) _ 72 rfl (N := 7) rfl 51 _ _ rfl (l0.length : Int) rfl rfl Tryd.underlying51 (.int .u16 0) 2 info72 rfl (by decide) (by omega) 0 (ok := fun _ => True) (okp := fun _ => True) rfl (fun _ hk => hk) trivial (oD_) (Nat.le_trans (Nat.mul_le_mul_right _ (oD_ : (l0.length : Int).toNat ≤ 140737488355328)) (by omega)) (Below.refl _ _) (Nat.le_refl _) ?_; intro v631 w4 ho5 hb hg_ hnew_; clear hg_ hnew_; (first | rw [← Ny630.out] at ho5 | (simp only [Int.reduceToNat] at ho5; rw [← Ny630.out] at ho5)); have n0_ := Aside0.mk (Kd.R_lower ho5 (qal hB_)); have n1_ := Aside0.mk (qak hB_ hb); clear HB; have HO632 := n0_; have HB := n1_; clear n0_ n1_; clear hb ho5))
   go_loopg [10] k (fun kq v10 w' => ∃ (x3_1 : List Int) (x10_1 : Int), v10 = .int .i64 x10_1 ∧ Aside0 (impl_table_others.l0 kq l0 x3_1 (l0.length : Int) x10_1 = some r) ∧ Aside0 (kq ≤ k) ∧ Aside0 (Kd.R (Kd.int .u16) 72 w' w.heap.size (fun _ => True) v631 x3_1) ∧ Aside0 (Below w.heap.size w w'))
   case atStart => exact ⟨(y630), (0), rS_, H', ⟨Nat.le_refl _⟩, ⟨by (with_reducible repeat (first | apply Kd.qat | apply Kd.qas | apply Kd.R_drew)); exact HO632.out⟩, ⟨by repeat (first | (with_reducible first | exact HB.out | apply qad | apply qaa | apply qac) | exact HB.out)⟩⟩
   case round =>
    clear H'
    obtain ⟨x3_1, x10_1, rfl, HA, HK1, HO_3, HB⟩ := hrel
    cases gk with
    | zero => exact absurd HA.out (by simp [impl_table_others.l0])
    | succ k1 =>
     have H := HA.out
     clear HA
     simp only [impl_table_others.l0] at H
     by_cases c6 : x10_1 < (l0.length : Int)
     ·rw [if_pos c6] at H
      have c6b0 : decide (x10_1 < (l0.length : Int)) = true := decide_eq_true c6
      clear c6
      obtain ⟨ji7, hji7⟩ : ∃ j_ : Int, (shl .u16 1 (l0.length : Int)) = j_ := ⟨_, rfl⟩
      replace H : (if 0 ≤ x10_1 then (if x10_1 < (l0.length : Int) then (if x10_1 < (x3_1.length : Int) then (impl_table_others.l0 k1 l0 (x3_1.set (x10_1 : Int).toNat (Go.bits .andNot .u16 (Go.bits .andNot .u16 (IntKind.u16.wrap ((ji7) - 1)) (rd l0 x10_1)) (shl .u16 1 x10_1))) (l0.length : Int) (wrap64 (x10_1 + 1))) else (none)) else (none)) else (none)) = some r := by first | (rw [hji7] at H; exact H) | (simp only [hji7] at H ⊢; exact H)
      have hji7_ : (IntKind.u16.wrap (1 * 2 ^ min (l0.length : Int).toNat 16)) = ji7 := hji7
      have hji7z : (l0.length : Int) ≤ 16 → (IntKind.u16.wrap (1 * 2 ^ (l0.length : Int).toNat)) = ji7 := shl_small hji7
      have hji7p : (IntKind.u16.wrap (1 * 2 ^ min l0.length 16)) = ji7 := hji7_
      have hji7q : (l0.length : Int) ≤ 16 → (IntKind.u16.wrap (1 * 2 ^ l0.length)) = ji7 := hji7z
      have hji7r : (IntKind.u16.wrap (2 ^ min l0.length 16)) = ji7 := by have h_ := hji7p; rw [Int.one_mul] at h_; exact h_
      have hji7s : (l0.length : Int) ≤ 16 → (IntKind.u16.wrap (2 ^ l0.length)) = ji7 := fun hle_ => by have h_ := hji7q hle_; rw [Int.one_mul] at h_; exact h_
      have hji7u : (IntKind.u16.wrap (2 ^ min (l0.length : Int).toNat 16)) = ji7 := by have h_ := hji7_; rw [Int.one_mul] at h_; exact h_
      have hji7v : (l0.length : Int) ≤ 16 → (IntKind.u16.wrap (2 ^ (l0.length : Int).toNat)) = ji7 := fun hle_ => by have h_ := hji7z hle_; rw [Int.one_mul] at h_; exact h_
      by_cases c8 : 0 ≤ x10_1
      ·rw [if_pos c8] at H
       have c8b0 : decide (0 ≤ x10_1) = true := decide_eq_true c8
       clear c8
       by_cases c9 : x10_1 < (l0.length : Int)
       ·rw [if_pos c9] at H
        have c9b0 : decide (x10_1 < (l0.length : Int)) = true := decide_eq_true c9
        clear c9
        have c10b0 := eq_true (oD_ : 0 ≤ x10_1)
        obtain ⟨ji11, hji11⟩ : ∃ j_ : Int, (shl .u16 1 x10_1) = j_ := ⟨_, rfl⟩
        replace H : (if x10_1 < (x3_1.length : Int) then (impl_table_others.l0 k1 l0 (x3_1.set (x10_1 : Int).toNat (Go.bits .andNot .u16 (Go.bits .andNot .u16 (IntKind.u16.wrap ((ji7) - 1)) (rd l0 x10_1)) (ji11))) (l0.length : Int) (wrap64 (x10_1 + 1))) else (none)) = some r := by first | (rw [hji11] at H; exact H) | (simp only [hji11] at H ⊢; exact H)
        have hji11_ : (IntKind.u16.wrap (1 * 2 ^ min x10_1.toNat 16)) = ji11 := hji11
        have hji11z : x10_1 ≤ 16 → (IntKind.u16.wrap (1 * 2 ^ x10_1.toNat)) = ji11 := shl_small hji11
        have hji11u : (IntKind.u16.wrap (2 ^ min x10_1.toNat 16)) = ji11 := by have h_ := hji11_; rw [Int.one_mul] at h_; exact h_
        have hji11v : x10_1 ≤ 16 → (IntKind.u16.wrap (2 ^ x10_1.toNat)) = ji11 := fun hle_ => by have h_ := hji11z hle_; rw [Int.one_mul] at h_; exact h_
        by_cases c12 : x10_1 < (x3_1.length : Int)
        ·rw [if_pos c12] at H
         have c12b0 : decide (x10_1 < (x3_1.length : Int)) = true := decide_eq_true c12
         clear c12
         obtain ⟨y634, hy634⟩ : ∃ y_ : List Int, y_ = (x3_1.set (x10_1 : Int).toNat (Go.bits .andNot .u16 (Go.bits .andNot .u16 (IntKind.u16.wrap ((ji7) - 1)) (rd l0 x10_1)) (ji11))) := ⟨_, rfl⟩
         replace H : (impl_table_others.l0 k1 l0 y634 (l0.length : Int) (wrap64 (x10_1 + 1))) = some r := by first | (rw [hy634]; with_reducible exact H) | (have H2_ := (Option.bind_some _ _).symm.trans H; rw [hy634]; with_reducible exact H2_) | (have H2_ := (Option.bind_some _ _).symm.trans H; with_reducible exact H2_) | with_reducible exact H | (rw [hy634]; exact H) | exact H
         have Ny634 := Aside0.mk hy634
         clear hy634
         have H' := Aside0.mk H
         clear H
         try go_wp2
         have n0_ := Aside0.mk (Kd.R_drew HO_3.out)
         have n1_ := Aside0.mk (qac HB.out)
         clear HO_3
         clear HB
         have HO_3 := n0_
         have HB := n1_
         clear n0_ n1_
         have p633 : 0 ≤ (x10_1 : Int) := oD_
         have q633 : x10_1 < (l0.length : Int) := oD_
         obtain ⟨ad633, e633, hx633_0⟩ := Kd.at_int HR0.out x10_1 p633 q633
         have hw633_0 := hx633_0
         cases e633
         (try (replace hx633_0 := (HB.out.cell (World.block_lt_of_cell? w _ hx633_0)).trans hx633_0))
         replace p633 := eq_true p633
         replace q633 := eq_true q633
         have p13 : 0 ≤ (x10_1 : Int) := oD_
         have q13 : (x10_1 : Int) < ((x3_1.length : Int) : Int) := oD_
         obtain ⟨go13, co13, eo13, gb13, gl13, cl13, HG13⟩ := Kd.R_form HO_3.out (by omega)
         (first | cases eo13 | (injection eo13 with ea_ en_ ec_; (first | subst ea_ | (injection ea_ with ea_; subst ea_)); subst ec_; clear en_))
         have GB13 := Aside0.mk gb13
         have GG13 := Aside0.mk HG13
         clear gb13 gl13 HG13
         obtain ⟨hx13_0, hf13_0⟩ := Kd.R_celln 0 HO_3.out (x10_1 : Int) p13 q13
         replace p13 := eq_true p13
         replace q13 := eq_true q13
         have HP15 := Kd.R_putn HO_3.out (x10_1 : Int) (Go.bits .andNot .u16 (Go.bits .andNot .u16 (IntKind.u16.wrap ((ji7) - 1)) (rd l0 x10_1)) (ji11))
         rw [← Ny634.out] at HP15
         have HQ15 := Aside0.mk HP15
         clear HP15
         refine start_ (n := 16) (S := fun w' => w'.cell? (ad633.add (x10_1).toNat) = some (.int .u16 (rd l0 x10_1))) (ds := [15]) #[fF,fF,fF,fF,fF,fF,fF,fF,fF,fF,fF,fF,fF,fF,fF,fF] (by kernel_rfl) rfl rfl (((HB.out.cell (World.block_lt_of_cell? w _ hw633_0)).trans hw633_0)) (fun hHeld => ?_); refine with_tabW impl_table_others.tab5 impl_table_others.bits5 (fun HT_ HW_ => ?_)
         generalize wr.drew = w14 at HO_3 HB GG13 HQ15 hf13_0 hx13_0 hx633_0 hHeld ⊢
         refine qar (i := 0) (N := some 13) (v := ?_) (a' := ?_) #[tT,fF,fF,fF,fF,fF,fF,fF,fF,fF,fF,fF,fF,fF,fF,fF] rfl rfl (aO_ HT_.out) (fun _ _ _ h => h) (.inl ⟨by rfl, ?_⟩) ?_ ?_
         rotate_left
         ·intro w'
          go_simp
          with_reducible rfl
         rotate_left
         ·simp only [Act.put, sP_, qam, qan]
          rfl
         refine qar (i := 1) (N := some 14) (v := ?_) (a' := ?_) #[tT,tT,fF,fF,fF,fF,fF,fF,fF,fF,fF,fF,fF,fF,fF,fF] rfl rfl (aO_ HT_.out) (fun _ _ _ h => h) (.inl ⟨by rfl, ?_⟩) ?_ ?_
         rotate_left
         ·intro w'
          go_simp
          with_reducible rfl
         rotate_left
         ·simp only [Act.put, sP_, qam, qan]
          rfl
         refine qar (i := 2) (N := some 15) (v := ?_) (a' := ?_) #[tT,tT,tT,fF,fF,fF,fF,fF,fF,fF,fF,fF,fF,fF,fF,fF] rfl rfl (aO_ HT_.out) (fun _ _ _ h => h) (.inl ⟨by rfl, ?_⟩) ?_ ?_
         rotate_left
         ·intro w'
          go_simp
          with_reducible rfl
         rotate_left
         ·simp only [Act.put, sP_, qam, qan]
          rfl
         refine qar (i := 3) (N := some 16) (v := ?_) (a' := ?_) #[tT,tT,tT,tT,fF,fF,fF,fF,fF,fF,fF,fF,fF,fF,fF,fF] rfl rfl (aO_ HT_.out) (fun _ _ _ h => h) (.inl ⟨by rfl, ?_⟩) ?_ ?_
         rotate_left
         ·intro w'
          go_simp
          with_reducible rfl
         rotate_left
         ·simp only [Act.put, sP_, qam, qan]
          rfl
         refine qar (i := 4) (N := some 17) (v := ?_) (a' := ?_) #[tT,tT,tT,tT,tT,fF,fF,fF,fF,fF,fF,fF,fF,fF,fF,fF] rfl rfl (aO_ HT_.out) (fun _ _ _ h => h) (.inl ⟨by rfl, ?_⟩) ?_ ?_
         rotate_left
         ·intro w'
          go_simp
          with_reducible rfl
         rotate_left
         ·simp only [Act.put, sP_, qam, qan]
          rfl
         refine qar (i := 5) (N := some 18) (v := ?_) (a' := ?_) #[tT,tT,tT,tT,tT,tT,fF,fF,fF,fF,fF,fF,fF,fF,fF,fF] rfl rfl (aO_ HT_.out) (fun _ _ _ h => h) (.inl ⟨by rfl, ?_⟩) ?_ ?_
         rotate_left
         ·intro w'
          go_simp
          with_reducible rfl
         rotate_left
         ·simp only [Act.put, sP_, qam, qan]
          rfl
         refine qar (i := 6) (N := some 19) (v := ?_) (a' := ?_) #[tT,tT,tT,tT,tT,tT,tT,fF,fF,fF,fF,fF,fF,fF,fF,fF] rfl rfl (aO_ HT_.out) (fun _ _ _ h => h) (.inl ⟨by rfl, ?_⟩) ?_ ?_
         rotate_left
         ·intro w'
          go_simp
          with_reducible rfl
         rotate_left
         ·simp only [Act.put, sP_, qam, qan]
          rfl
         refine qar (i := 7) (N := some 20) (v := ?_) (a' := ?_) #[tT,tT,tT,tT,tT,tT,tT,tT,fF,fF,fF,fF,fF,fF,fF,fF] rfl rfl (aO_ HT_.out) (fun _ _ _ h => h) (.inl ⟨by rfl, ?_⟩) ?_ ?_
         rotate_left
         ·intro w'
          go_simp
          with_reducible rfl
         rotate_left
         ·simp only [Act.put, sP_, qam, qan]
          rfl
         refine qar (i := 8) (N := some 21) (v := ?_) (a' := ?_) #[tT,tT,tT,tT,tT,tT,tT,tT,tT,fF,fF,fF,fF,fF,fF,fF] rfl rfl (aO_ HT_.out) (fun _ _ _ h => h) (.inl ⟨by rfl, ?_⟩) ?_ ?_
         rotate_left
         ·intro w'
          go_simp
          with_reducible rfl
         rotate_left
         ·simp only [Act.put, sP_, qam, qan]
          rfl
         refine qar (i := 11) (N := some 24) (v := ?_) (a' := ?_) #[tT,tT,tT,tT,tT,tT,tT,tT,tT,fF,fF,tT,fF,fF,fF,fF] rfl rfl (aO_ HT_.out) (fun _ _ _ h => h) (.inl ⟨by rfl, ?_⟩) ?_ ?_
         rotate_left
         ·intro w'
          go_simp
          with_reducible rfl
         rotate_left
         ·simp only [Act.put, sP_, qam, qan]
          rfl
         refine qar (i := 12) (N := some 25) (v := ?_) (a' := ?_) #[tT,tT,tT,tT,tT,tT,tT,tT,tT,fF,fF,tT,tT,fF,fF,fF] rfl rfl (aO_ HT_.out) (fun _ _ _ h => h) (.inl ⟨by rfl, ?_⟩) ?_ ?_
         rotate_left
         ·intro w'
          go_simp
          with_reducible rfl
         rotate_left
         ·simp only [Act.put, sP_, qam, qan]
          rfl
         refine take_ (i := 9) (N := some 22) (v := ?_) (a' := ?_) #[tT,tT,tT,tT,tT,tT,tT,tT,tT,tT,fF,tT,tT,fF,fF,fF] rfl rfl (take_ofW HT_.out HW_.out (by kernel_rfl)) (fun _ _ _ h => h) (Or.inl ⟨by rfl, ?_⟩) hHeld ?_ ?_
         rotate_left
         ·intro w' s0
          go_simp
          with_reducible rfl
         rotate_left
         ·simp only [Act.put, sP_, qam, qan]
          rfl
         refine qar (i := 10) (N := some 23) (v := ?_) (a' := ?_) #[tT,tT,tT,tT,tT,tT,tT,tT,tT,tT,tT,tT,tT,fF,fF,fF] rfl rfl (aO_ HT_.out) (fun _ _ _ h => h) (.inl ⟨by rfl, ?_⟩) ?_ ?_
         rotate_left
         ·intro w'
          go_simp
          with_reducible rfl
         rotate_left
         ·simp only [Act.put, sP_, qam, qan]
          rfl
         refine qar (i := 13) (N := some 26) (v := ?_) (a' := ?_) #[tT,tT,tT,tT,tT,tT,tT,tT,tT,tT,tT,tT,tT,tT,fF,fF] rfl rfl (aO_ HT_.out) (fun _ _ _ h => h) (.inl ⟨by rfl, ?_⟩) ?_ ?_
         rotate_left
         ·intro w'
          go_simp
          with_reducible rfl
         rotate_left
         ·simp only [Act.put, sP_, qam, qan]
          rfl
         refine qar (i := 14) (N := some 27) (v := ?_) (a' := ?_) #[tT,tT,tT,tT,tT,tT,tT,tT,tT,tT,tT,tT,tT,tT,tT,fF] rfl rfl (aO_ HT_.out) (fun _ _ _ h => h) (.inl ⟨by rfl, ?_⟩) ?_ ?_
         rotate_left
         ·intro w'
          go_simp
          with_reducible rfl
         rotate_left
         ·simp only [Act.put, sP_, qam, qan]
          rfl
         refine last_ (i := 15) (N := none) #[tT,tT,tT,tT,tT,tT,tT,tT,tT,tT,tT,tT,tT,tT,tT,tT] rfl rfl (one_of HT_.out (by kernel_rfl)) (by decide) (fun K hK => ?_)
         refine skip_ (w1 := ?_) (by rfl) rfl ?_ ?_
         rotate_left
         ·go_simp
          rfl
         refine hK.out _ _ ?_
         clear hK K
         refine done_ (done_of HT_.out (by kernel_rfl)) ?_
         try go_wp2
         go_roundg k1
         case measure => have := HK1.out; omega
         case rel => exact ⟨(y634), (wrap64 (x10_1 + 1)), rS_, H', ⟨by have := HK1.out; omega⟩, ⟨by (with_reducible repeat (first | apply Kd.qat | apply Kd.qas | apply Kd.R_drew)); exact HQ15.out⟩, ⟨by repeat (first | (with_reducible first | exact HB.out | apply qad | apply qaa | apply qac | refine qae ?_ GB13.out) | exact HB.out)⟩⟩
        ·rw [if_neg c12] at H
         exact absurd H (by simp)
       ·rw [if_neg c9] at H
        exact absurd H (by simp)
      ·rw [if_neg c8] at H
       exact absurd H (by simp)
     ·rw [if_neg c6] at H
      have c6b0 : decide (x10_1 < (l0.length : Int)) = false := decide_eq_false c6
      clear c6
      obtain rfl := Option.some.inj H
      go_wp2
      go_ret
      exact ⟨_, by first | rfl | (simp [errW_none, errW_some] <;> rfl) | (simp [*, errW_none, errW_some] <;> rfl), by (with_reducible repeat (first | apply Kd.qat | apply Kd.qas | apply Kd.R_drew)); exact HO_3.out, by repeat (first | (with_reducible first | exact HB.out | apply qad | apply qaa | apply qac) | exact HB.out)⟩
  ·rw [if_neg c3] at H
   exact absurd H (by simp)
 ·rw [if_neg c2] at H
  exact absurd H (by simp)

end Go.Proofs.YtedfcbbklhfgcaaDoor.Q
namespace Go.Proofs.YtedfcbbklhfgcaaDoor.Q
open Go.RowKit Go.Proofs.YtedfcbbklhfgcaaDoorW.PrintWords Go.Proofs.YtedfcbbklhfgcaaDoorW.PrintLast Go.Proofs.YtedfcbbklhfgcaaDoorW.PrintMore
attribute [local go_sem] max2_int min2_int max_two min_two max_three min_three max_four min_four   -- for this text's walks alone
set_option linter.unusedVariables false
set_option linter.unusedSimpArgs false

/-! ### impl_TwoTables: function 24 -/
def impl_TwoTables.f (k : Nat) (a0_0 : Int) (l0_1 : List (S56)) : Option (List Int × Bool) := (impl_IsParty.f k a0_0 l0_1).bind fun t636 => (if t636 = true then ((impl_Party_table.f k a0_0 l0_1).bind fun t637 => ((impl_table_others.f k t637).bind fun t640 => ((impl_table_apart.f k t640).bind fun bt643 => (some (bt643.1, bt643.2))))) else (some (([] : List Int), false)))
theorem impl_TwoTables.mono : ∀ a0 a1 k, LeO (impl_TwoTables.f k a0 a1) (impl_TwoTables.f (k + 1) a0 a1) := by
 intro a0 a1 k
 unfold impl_TwoTables.f
 repeat' first
   | (with_reducible exact impl_IsParty.mono _ _ _)
   | (with_reducible exact impl_Party_table.mono _ _ _)
   | (with_reducible exact impl_table_apart.mono _ _)
   | (with_reducible exact impl_table_others.mono _ _)
   | (with_reducible exact LeO.refl _)
   | (with_reducible exact LeO.none _)
   | (with_reducible refine LeO.ite ?_ ?_)
   | (with_reducible refine LeO.bind ?_ (fun _ => ?_))
   | exact impl_IsParty.mono _ _ _
   | exact impl_Party_table.mono _ _ _
   | exact impl_table_apart.mono _ _
   | exact impl_table_others.mono _ _
   | exact LeO.none _
   | refine LeO.ite ?_ ?_
   | refine LeO.bind ?_ (fun _ => ?_)
set_option maxHeartbeats 8000000 in
set_option maxRecDepth 100000 in
theorem impl_TwoTables.calls (k : Nat) (a0_0 : Int) (A0_1 : Option Addr) (c0_1 : Nat) (l0_1 : List (S56)) (r1 : List Int) (r2 : Bool) (w : World) (hG : Tab w) (hr0_1 : Kd.C k56 w A0_1 l0_1.length l0_1) (hc0_1 : l0_1.length ≤ c0_1) (h : impl_TwoTables.f k a0_0 l0_1 = some (r1, r2)) :
  Calls Tryd.prog 24 #[.agg #[.int .i64 a0_0, .slice A0_1 l0_1.length c0_1]] w fun e w' => ∃ v0_ : Value, e = .returned (.tuple #[v0_, .bool r2]) ∧ Kd.R (Kd.int .i64) 3 w' w.heap.size (fun _ => True) v0_ r1 ∧ Below w.heap.size w w' := by
 have HG := Aside0.mk hG
 clear hG
 have hu30 := Tryd.underlying30
 have HR0_1 := Aside0.mk hr0_1
 have HC0_1 := Aside0.mk hc0_1
 clear hr0_1 hc0_1
 have HB := Aside0.mk (Below.refl w.heap.size w)
 have H : ((impl_IsParty.f k a0_0 l0_1).bind fun t636 => (if t636 = true then ((impl_Party_table.f k a0_0 l0_1).bind fun t637 => ((impl_table_others.f k t637).bind fun t640 => ((impl_table_apart.f k t640).bind fun bt643 => (some (bt643.1, bt643.2))))) else (some (([] : List Int), false)))) = some (r1, r2) := h
 clear h
 replace H := Option.bind_eq_some_iff.mp H
 obtain ⟨t636, A20, H⟩ := H
 replace H : (if t636 = true then ((impl_Party_table.f k a0_0 l0_1).bind fun t637 => ((impl_table_others.f k t637).bind fun t640 => ((impl_table_apart.f k t640).bind fun bt643 => (some (bt643.1, bt643.2))))) else (some (([] : List Int), false))) = some (r1, r2) := H
 have A2 := Aside0.mk A20
 clear A20
 by_cases c3 : t636 = true
 ·subst c3
  have H1 : ((impl_Party_table.f k a0_0 l0_1).bind fun t637 => ((impl_table_others.f k t637).bind fun t640 => ((impl_table_apart.f k t640).bind fun bt643 => (some (bt643.1, bt643.2))))) = some (r1, r2) := by rw [if_pos rfl] at H; exact H
  clear H
  have H := H1
  clear H1
  replace H := Option.bind_eq_some_iff.mp H
  obtain ⟨t637, A40, H⟩ := H
  replace H : ((impl_table_others.f k t637).bind fun t640 => ((impl_table_apart.f k t640).bind fun bt643 => (some (bt643.1, bt643.2)))) = some (r1, r2) := H
  have A4 := Aside0.mk A40
  clear A40
  replace H := Option.bind_eq_some_iff.mp H
  obtain ⟨t640, A50, H⟩ := H
  replace H : ((impl_table_apart.f k t640).bind fun bt643 => (some (bt643.1, bt643.2))) = some (r1, r2) := H
  have A5 := Aside0.mk A50
  clear A50
  replace H := Option.bind_eq_some_iff.mp H
  obtain ⟨⟨t643, t644⟩, A60, H⟩ := H
  replace H : (some (t643, t644)) = some (r1, r2) := H
  have A6 := Aside0.mk A60
  clear A60
  simp only [Option.some.injEq, Prod.mk.injEq] at H
  obtain ⟨rfl, rfl⟩ := H
  go_enter Tryd.func24, Tryd.ntmps24
  go_wp2_with (first | ((with_reducible refine gate_dst (N := 1) rfl ?_); refine box_event ?hg (N := 1) ?hd (cs := #[.int .i64 a0_0, .slice A0_1 l0_1.length c0_1]) (t := 30) ?hr ?_; (case hd => rfl); (case hg => rfl); (case hr => first | (go_simp; done) | (go_simp; rfl)); intro gb635 hg w7 hbox hb; have n0_ := Aside0.mk (qak hB_ hb); have n1_ := Aside0.mk (hbox); have n2_ := Aside0.mk ((by rw [hg]; exact (qal hB_) : w.heap.size ≤ gb635)); have n3_ := n2_; clear HB; have HB := n0_; have BK635 := n1_; have GW635 := n2_; have GE635 := n3_; clear n0_ n1_ n2_ n3_; clear hb hbox hg; have hcz8_0 : w7.cell? ⟨gb635, 0, none⟩ = some (.int .i64 a0_0) := (qab BK635.out 0).trans rfl; have hcz8_1 : w7.cell? ⟨gb635, 1, none⟩ = some (.slice A0_1 l0_1.length c0_1) := (qab BK635.out 1).trans rfl; have hfz8_0 := qaf BK635.out 0; have hfz8_1 := qaf BK635.out 1) | ((with_reducible refine qao (f := 35) rfl ?_); refine goesL_ (some 5) rfl rfl Tryd.func35 (by kernel_rfl) rfl #[.agg #[.int .i64 a0_0, .slice A0_1 l0_1.length c0_1]] rfl mT_ ?_; (with_reducible refine (impl_IsParty.calls k a0_0 _ _ l0_1 true _ ?side1 ?side2 A2.out).mono ?_); (case side1 => repeat (first | exact (Kd.C_below HR0_1.out HB.out) | (with_reducible refine Kd.C_alloc ?_ _) | (with_reducible refine Kd.C_drewN ?_ _) | (with_reducible refine Kd.C_drew ?_))); (case side2 => exact HC0_1.out); rintro e w9 ⟨rfl, hb⟩; refine ⟨_, rfl, ?_⟩; have n0_ := Aside0.mk (qap (g := gb635) (o := .cells #[.int .i64 a0_0, .slice A0_1 l0_1.length c0_1] 30 (0, 0)) (uB_ BK635.out) hb); have n1_ := Aside0.mk (qak (hB1_ GE635.out) hb); clear BK635; clear HB; have BK635 := n0_; have HB := n1_; clear n0_ n1_; (try clear hb); (try clear hb2); (try clear hk); (try clear hi); have hcz10_0 : w9.cell? ⟨gb635, 0, none⟩ = some (.int .i64 a0_0) := (qab BK635.out 0).trans rfl; have hcz10_1 : w9.cell? ⟨gb635, 1, none⟩ = some (.slice A0_1 l0_1.length c0_1) := (qab BK635.out 1).trans rfl; have hfz10_0 := qaf BK635.out 0; have hfz10_1 := qaf BK635.out 1) | ((with_reducible refine qao (f := 32) rfl ?_); refine goesL_ (some 8) rfl rfl Tryd.func32 (by kernel_rfl) rfl #[.agg #[.int .i64 a0_0, .slice A0_1 l0_1.length c0_1]] rfl mT_ ?_; (with_reducible refine (impl_Party_table.calls k a0_0 _ _ l0_1 t637 _ ?side1 ?side2 A4.out).mono ?_); (case side1 => repeat (first | exact (Kd.C_below HR0_1.out HB.out) | (with_reducible refine Kd.C_alloc ?_ _) | (with_reducible refine Kd.C_drewN ?_ _) | (with_reducible refine Kd.C_drew ?_))); (case side2 => exact HC0_1.out); rintro e w11 ⟨v638, rfl, ho0, hb⟩; refine ⟨_, rfl, ?_⟩; have n0_ := Aside0.mk (Kd.R_lower ho0 (qal (hB1_ GE635.out))); have n1_ := Aside0.mk (qap (g := gb635) (o := .cells #[.int .i64 a0_0, .slice A0_1 l0_1.length c0_1] 30 (0, 0)) (uB_ BK635.out) hb); have n2_ := Aside0.mk (qak (hB1_ GE635.out) hb); clear BK635; clear HB; have HO639 := n0_; have BK635 := n1_; have HB := n2_; clear n0_ n1_ n2_; (try clear hb); (try clear hb2); (try clear hk); (try clear hi); (try clear ho0); obtain ⟨Ao12, co12, eo12⟩ := Kd.R_slice HO639.out; subst eo12) | ((with_reducible refine qao (f := 47) rfl ?_); refine goesL_ (some 9) rfl rfl Tryd.func47 (by kernel_rfl) rfl #[.slice Ao12 t637.length co12] rfl mT_ ?_; (with_reducible refine (impl_table_others.calls k _ _ t637 t640 _ ?side1 ?side2 A5.out).mono ?_); (case side1 => repeat (first | exact (Kd.R_reads' HO639.out).2.2 | (with_reducible refine Kd.C_alloc ?_ _) | (with_reducible refine Kd.C_drewN ?_ _) | (with_reducible refine Kd.C_drew ?_))); (case side2 => exact (Kd.R_reads' HO639.out).2.1); rintro e w13 ⟨v641, rfl, ho0, hb⟩; refine ⟨_, rfl, ?_⟩; have n0_ := Aside0.mk (Kd.R_elder' (uR_ HO639.out) (Kd.R_base ho0) hb); have n1_ := Aside0.mk (Kd.R_lower (Kd.R_new' ho0 (Kd.R_lt (uR_ HO639.out))) (qal (hB1_ GE635.out))); have n2_ := Aside0.mk (qap (g := gb635) (o := .cells #[.int .i64 a0_0, .slice A0_1 l0_1.length c0_1] 30 (0, 0)) (uB_ BK635.out) hb); have n3_ := Aside0.mk (qak (hB1_ GE635.out) hb); clear HO639; clear BK635; clear HB; have HO639 := n0_; have HO642 := n1_; have BK635 := n2_; have HB := n3_; clear n0_ n1_ n2_ n3_; (try clear hb); (try clear hb2); (try clear hk); (try clear hi); (try clear ho0); obtain ⟨Ao14, co14, eo14⟩ := Kd.R_slice HO642.out; subst eo14) | ((with_reducible refine qao (f := 44) rfl ?_); refine goesL_ (some 10) rfl rfl Tryd.func44 (by kernel_rfl) rfl #[.slice Ao14 t640.length co14] rfl mT_ ?_; (with_reducible refine (impl_table_apart.calls k _ _ t640 t643 t644 _ ?sideG ?side1 ?side2 A6.out).mono ?_); (case sideG => first | exact HG.out | exact Tab.below HG.out (hB1_ GE635.out)); (case side1 => repeat (first | exact (Kd.R_reads' HO642.out).2.2 | (with_reducible refine Kd.C_alloc ?_ _) | (with_reducible refine Kd.C_drewN ?_ _) | (with_reducible refine Kd.C_drew ?_))); (case side2 => exact (Kd.R_reads' HO642.out).2.1); rintro e w15 ⟨v645, rfl, ho0, hb⟩; refine ⟨_, rfl, ?_⟩; have n0_ := Aside0.mk (Kd.R_below (uR_ HO639.out) hb); have n1_ := Aside0.mk (Kd.R_below (uR_ HO642.out) hb); have n2_ := Aside0.mk (Kd.R_lower ho0 (qal (hB1_ GE635.out))); have n3_ := Aside0.mk (qap (g := gb635) (o := .cells #[.int .i64 a0_0, .slice A0_1 l0_1.length c0_1] 30 (0, 0)) (uB_ BK635.out) hb); have n4_ := Aside0.mk (qak (hB1_ GE635.out) hb); clear HO639; clear HO642; clear BK635; clear HB; have HO639 := n0_; have HO642 := n1_; have HO646 := n2_; have BK635 := n3_; have HB := n4_; clear n0_ n1_ n2_ n3_ n4_; (try clear hb); (try clear hb2); (try clear hk); (try clear hi); (try clear ho0)))
  go_ret2
  exact ⟨_, by first | rfl | (simp [errW_none, errW_some] <;> rfl) | (simp [*, errW_none, errW_some] <;> rfl), by (with_reducible repeat (first | apply Kd.qat | apply Kd.qas | apply Kd.R_drew)); exact HO646.out, by repeat (first | (with_reducible first | exact HB.out | apply qad | apply qaa | apply qac | refine qae ?_ GE635.out) | exact HB.out)⟩
 ·replace c3 := Bool.eq_false_iff.mpr c3
  subst c3
  have H1 : (some (([] : List Int), false)) = some (r1, r2) := by rw [if_neg (show ¬ (false = true) by decide)] at H; exact H
  clear H
  have H := H1
  clear H1
  simp only [Option.some.injEq, Prod.mk.injEq] at H
  obtain ⟨rfl, rfl⟩ := H
  go_enter Tryd.func24, Tryd.ntmps24
  go_wp2_with (first | ((with_reducible refine gate_dst (N := 1) rfl ?_); refine box_event ?hg (N := 1) ?hd (cs := #[.int .i64 a0_0, .slice A0_1 l0_1.length c0_1]) (t := 30) ?hr ?_; (case hd => rfl); (case hg => rfl); (case hr => first | (go_simp; done) | (go_simp; rfl)); intro gb635 hg w16 hbox hb; have n0_ := Aside0.mk (qak hB_ hb); have n1_ := Aside0.mk (hbox); have n2_ := Aside0.mk ((by rw [hg]; exact (qal hB_) : w.heap.size ≤ gb635)); have n3_ := n2_; clear HB; have HB := n0_; have BK635 := n1_; have GW635 := n2_; have GE635 := n3_; clear n0_ n1_ n2_ n3_; clear hb hbox hg; have hcz17_0 : w16.cell? ⟨gb635, 0, none⟩ = some (.int .i64 a0_0) := (qab BK635.out 0).trans rfl; have hcz17_1 : w16.cell? ⟨gb635, 1, none⟩ = some (.slice A0_1 l0_1.length c0_1) := (qab BK635.out 1).trans rfl; have hfz17_0 := qaf BK635.out 0; have hfz17_1 := qaf BK635.out 1) | ((with_reducible refine qao (f := 35) rfl ?_); refine goesL_ (some 5) rfl rfl Tryd.func35 (by kernel_rfl) rfl #[.agg #[.int .i64 a0_0, .slice A0_1 l0_1.length c0_1]] rfl mT_ ?_; (with_reducible refine (impl_IsParty.calls k a0_0 _ _ l0_1 false _ ?side1 ?side2 A2.out).mono ?_); (case side1 => repeat (first | exact (Kd.C_below HR0_1.out HB.out) | (with_reducible refine Kd.C_alloc ?_ _) | (with_reducible refine Kd.C_drewN ?_ _) | (with_reducible refine Kd.C_drew ?_))); (case side2 => exact HC0_1.out); rintro e w18 ⟨rfl, hb⟩; refine ⟨_, rfl, ?_⟩; have n0_ := Aside0.mk (qap (g := gb635) (o := .cells #[.int .i64 a0_0, .slice A0_1 l0_1.length c0_1] 30 (0, 0)) (uB_ BK635.out) hb); have n1_ := Aside0.mk (qak (hB1_ GE635.out) hb); clear BK635; clear HB; have BK635 := n0_; have HB := n1_; clear n0_ n1_; (try clear hb); (try clear hb2); (try clear hk); (try clear hi)))
  go_ret2
  exact ⟨_, by first | rfl | (simp [errW_none, errW_some] <;> rfl) | (simp [*, errW_none, errW_some] <;> rfl), by first | exact Kd.R_nil _ _ _ _ _ | exact Kd.N_nil _ _ _ _ _ | exact Kd.V_nil _ _ _ _ _ | exact Kd.Q_nil _ _ _ _ _ | exact Kd.S_nil _ _ _ _ _, by repeat (first | (with_reducible first | exact HB.out | apply qad | apply qaa | apply qac | refine qae ?_ GE635.out) | exact HB.out)⟩

end Go.Proofs.YtedfcbbklhfgcaaDoor.Q
namespace Go.Proofs.YtedfcbbklhfgcaaDoor.Q
open Go.RowKit Go.Proofs.YtedfcbbklhfgcaaDoorW.PrintWords Go.Proofs.YtedfcbbklhfgcaaDoorW.PrintLast Go.Proofs.YtedfcbbklhfgcaaDoorW.PrintMore
attribute [local go_sem] max2_int min2_int max_two min_two max_three min_three max_four min_four   -- for this text's walks alone
set_option linter.unusedVariables false
set_option linter.unusedSimpArgs false

/-! ### spec_paOf: function 63 -/
mutual
def spec_paOf.l0 : Nat → List (List Bool) → Int → Int → Int → List (S56) → Option (Int × (List (S56)))
 | 0, _, _, _, _, _ => none
 | k + 1, x0, x10, x11, x600000, x600001 => if x11 < x10 then (spec_paOf.l1 k x0 x11 (wrap64 (x11 + 1)) x10 x11 x600000 x600001) else (some (x600000, x600001))
def spec_paOf.l1 : Nat → List (List Bool) → Int → Int → Int → Int → Int → List (S56) → Option (Int × (List (S56)))
 | 0, _, _, _, _, _, _, _ => none
 | k + 1, x0, x4, x5, x10, x11, x600000, x600001 => if x5 < (x0.length : Int) then (if 0 ≤ x4 then (if x4 < (x0.length : Int) then (if 0 ≤ x5 then (if x5 < ((rd_L4 x0 x4).length : Int) then (if rdOf false (rd_L4 x0 x4) x5 = true then (if x600001.length < 8796093022208 then (spec_paOf.l1 k x0 x4 (wrap64 (x5 + 1)) x10 x11 x600000 (x600001 ++ [(⟨x4, x5⟩ : S56)])) else (none)) else (spec_paOf.l1 k x0 x4 (wrap64 (x5 + 1)) x10 x11 x600000 x600001)) else (none)) else (none)) else (none)) else (none)) else (spec_paOf.l0 k x0 x10 (wrap64 (x11 + 1)) x600000 x600001)
end
def spec_paOf.f (k : Nat) (l0 : List (List Bool)) : Option (Int × (List (S56))) := spec_paOf.l0 k l0 (l0.length : Int) 0 (l0.length : Int) ([] : List (S56))
theorem spec_paOf.mono_l : ∀ k, (∀ y0 y1 y2 y3 y4, LeO (spec_paOf.l0 k y0 y1 y2 y3 y4) (spec_paOf.l0 (k + 1) y0 y1 y2 y3 y4)) ∧ (∀ y0 y1 y2 y3 y4 y5 y6, LeO (spec_paOf.l1 k y0 y1 y2 y3 y4 y5 y6) (spec_paOf.l1 (k + 1) y0 y1 y2 y3 y4 y5 y6))
 | 0 => ⟨fun _ _ _ _ _ r h => by simp [spec_paOf.l0] at h, fun _ _ _ _ _ _ _ r h => by simp [spec_paOf.l1] at h⟩
 | k + 1 => by
  obtain ⟨ih0, ih1⟩ := spec_paOf.mono_l k
  refine ⟨?_, ?_⟩
  ·intro y0 y1 y2 y3 y4
   unfold spec_paOf.l0
   repeat' first
   | (with_reducible exact ih0 _ _ _ _ _)
   | (with_reducible exact ih1 _ _ _ _ _ _ _)
   | (with_reducible exact LeO.refl _)
   | (with_reducible exact LeO.none _)
   | (with_reducible refine LeO.ite ?_ ?_)
   | (with_reducible refine LeO.bind ?_ (fun _ => ?_))
   | exact ih0 _ _ _ _ _
   | exact ih1 _ _ _ _ _ _ _
   | exact LeO.none _
   | refine LeO.ite ?_ ?_
   | refine LeO.bind ?_ (fun _ => ?_)
  ·intro y0 y1 y2 y3 y4 y5 y6
   unfold spec_paOf.l1
   repeat' first
   | (with_reducible exact ih0 _ _ _ _ _)
   | (with_reducible exact ih1 _ _ _ _ _ _ _)
   | (with_reducible exact LeO.refl _)
   | (with_reducible exact LeO.none _)
   | (with_reducible refine LeO.ite ?_ ?_)
   | (with_reducible refine LeO.bind ?_ (fun _ => ?_))
   | exact ih0 _ _ _ _ _
   | exact ih1 _ _ _ _ _ _ _
   | exact LeO.none _
   | refine LeO.ite ?_ ?_
   | refine LeO.bind ?_ (fun _ => ?_)
theorem spec_paOf.mono : ∀ a0 k, LeO (spec_paOf.f k a0) (spec_paOf.f (k + 1) a0) := by
 intro a0 k
 obtain ⟨ih0, ih1⟩ := spec_paOf.mono_l k
 unfold spec_paOf.f
 repeat' first
   | (with_reducible exact ih0 _ _ _ _ _)
   | (with_reducible exact ih1 _ _ _ _ _ _ _)
   | (with_reducible exact LeO.refl _)
   | (with_reducible exact LeO.none _)
   | (with_reducible refine LeO.ite ?_ ?_)
   | (with_reducible refine LeO.bind ?_ (fun _ => ?_))
   | exact ih0 _ _ _ _ _
   | exact ih1 _ _ _ _ _ _ _
   | exact LeO.none _
   | refine LeO.ite ?_ ?_
   | refine LeO.bind ?_ (fun _ => ?_)
set_option maxHeartbeats 8000000 in
set_option maxRecDepth 100000 in
theorem spec_paOf.calls (k : Nat) (A0 : Option Addr) (c0 : Nat) (l0 : List (List Bool)) (r1 : Int) (r2 : List (S56)) (w : World) (hr0 : Kd.C (Kd.slice 4 Kd.bool) w A0 l0.length l0) (hc0 : l0.length ≤ c0) (h : spec_paOf.f k l0 = some (r1, r2)) :
  Calls Tryd.prog 63 #[.slice A0 l0.length c0] w fun e w' => ∃ v1_ : Value, e = .returned (.agg #[.int .i64 r1, v1_]) ∧ Kd.R k56 56 w' w.heap.size (fun _ => True) v1_ r2 ∧ Below w.heap.size w w' := by
 have hu30 := Tryd.underlying30
 have hu56 := Tryd.underlying56
 have HR0 := Aside0.mk hr0
 have HC0 := Aside0.mk hc0
 clear hr0 hc0
 have HB := Aside0.mk (Below.refl w.heap.size w)
 have H : (spec_paOf.l0 k l0 (l0.length : Int) 0 (l0.length : Int) ([] : List (S56))) = some (r1, r2) := h
 clear h
 have H' := Aside0.mk H
 clear H
 go_enter Tryd.func63, Tryd.ntmps63
 go_wp2_with (first | ((with_reducible refine gate_dst (N := 2) rfl ?_); refine box_event ?hg (N := 2) ?hd (cs := #[.int .i64 0, .slice none 0 0]) (t := 30) ?hr ?_; (case hd => rfl); (case hg => rfl); (case hr => first | (go_simp; done) | (go_simp; rfl)); intro gb598 hg w2 hbox hb; have n0_ := Aside0.mk (qak hB_ hb); have n1_ := Aside0.mk (hbox); have n2_ := Aside0.mk ((by rw [hg]; exact (qal hB_) : w.heap.size ≤ gb598)); have n3_ := n2_; clear HB; have HB := n0_; have BK598 := n1_; have GW598 := n2_; have GE598 := n3_; clear n0_ n1_ n2_ n3_; clear hb hbox hg) | ((with_reducible refine gate_dst (N := 3) rfl ?_); refine box_event ?hg (N := 3) ?hd (cs := #[.int .i64 0, .slice none 0 0]) (t := 30) ?hr ?_; (case hd => rfl); (case hg => rfl); (case hr => first | (go_simp; done) | (go_simp; rfl)); intro gb599 hg w3 hbox hb; have n0_ := Aside0.mk (qap (g := gb598) (o := .cells #[.int .i64 0, .slice none 0 0] 30 (0, 0)) (uB_ BK598.out) hb); have n1_ := Aside0.mk (qak (hB1_ GE598.out) hb); have n2_ := Aside0.mk (hbox); have n3_ := Aside0.mk ((by rw [hg]; exact (qal (hB1_ GE598.out)) : w.heap.size ≤ gb599)); have n4_ := n3_; have n5_ := Aside0.mk ((by rw [hg]; exact Nat.ne_of_lt (blk_lt (g := gb598) (o := .cells #[.int .i64 0, .slice none 0 0] 30 (0, 0)) (uB_ BK598.out)) : gb598 ≠ gb599)); have n6_ := Aside0.mk n5_.out.symm; clear BK598; clear HB; have BK598 := n0_; have HB := n1_; have BK599 := n2_; have GW599 := n3_; have GE599 := n4_; have NB598_599 := n5_; have NB599_598 := n6_; clear n0_ n1_ n2_ n3_ n4_ n5_ n6_; clear hb hbox hg; have hnb4 := NB599_598.out; have hnc4 := NB598_599.out; have hcz5_0 : w3.cell? ⟨gb599, 0, none⟩ = some (.int .i64 0) := (qab BK599.out 0).trans rfl; have hcz5_1 : w3.cell? ⟨gb599, 1, none⟩ = some (.slice none 0 0) := (qab BK599.out 1).trans rfl; have hfz5_0 := qaf BK599.out 0; have hfz5_1 := qaf BK599.out 1))
 go_loopg [11] k (fun kq v11 w' => ∃ (x11_1 : Int) (x600001_1 : List (S56)) (u600001 : Value), v11 = .int .i64 x11_1 ∧ Aside0 (spec_paOf.l0 kq l0 (l0.length : Int) x11_1 (l0.length : Int) x600001_1 = some (r1, r2)) ∧ Aside0 (kq ≤ k) ∧ Aside0 (Kd.R k56 56 w' w.heap.size (fun _ => True) u600001 x600001_1) ∧ Aside0 (w'.heap[gb598]? = some (.cells #[.int .i64 0, (.slice none 0 0)] 30 (0, 0))) ∧ Aside0 (w'.heap[gb599]? = some (.cells #[.int .i64 (l0.length : Int), u600001] 30 (0, 0))) ∧ Aside0 (Below w.heap.size w w'))
 case atStart => exact ⟨(0), (([] : List (S56))), (.slice none 0 0), rS_, H', ⟨Nat.le_refl _⟩, ⟨by first | exact Kd.R_nil _ _ _ _ _ | exact Kd.N_nil _ _ _ _ _ | exact Kd.V_nil _ _ _ _ _ | exact Kd.Q_nil _ _ _ _ _ | exact Kd.S_nil _ _ _ _ _⟩, ⟨by (with_reducible repeat (first | refine qah ?_ _ | refine qaj ?_ | refine qai ?_ _)); refine blk_far ?_ NB598_599.out _; (with_reducible repeat (first | refine qah ?_ _ | refine qaj ?_ | refine qai ?_ _)); refine blk_far ?_ NB598_599.out _; (with_reducible repeat (first | refine qah ?_ _ | refine qaj ?_ | refine qai ?_ _)); exact BK598.out⟩, ⟨by (with_reducible repeat (first | refine qah ?_ _ | refine qaj ?_ | refine qai ?_ _)); refine blk_put (cs := #[.int .i64 (l0.length : Int), .slice none 0 0]) ?_ 1 _ rfl; (with_reducible repeat (first | refine qah ?_ _ | refine qaj ?_ | refine qai ?_ _)); refine blk_put (cs := #[.int .i64 0, .slice none 0 0]) ?_ 0 _ rfl; (with_reducible repeat (first | refine qah ?_ _ | refine qaj ?_ | refine qai ?_ _)); exact BK599.out⟩, ⟨by repeat (first | (with_reducible first | exact HB.out | apply qad | apply qaa | apply qac | refine qae ?_ GE598.out | refine qae ?_ GE599.out) | exact HB.out)⟩⟩
 case round =>
  clear H'
  obtain ⟨x11_1, x600001_1, u600001, rfl, HA, HK1, HO_600001, BK598, BK599, HB⟩ := hrel
  cases gk with
  | zero => exact absurd HA.out (by simp [spec_paOf.l0])
  | succ k1 =>
   have H := HA.out
   clear HA
   simp only [spec_paOf.l0] at H
   by_cases c6 : x11_1 < (l0.length : Int)
   ·rw [if_pos c6] at H
    have c6b0 : decide (x11_1 < (l0.length : Int)) = true := decide_eq_true c6
    clear c6
    have H' := Aside0.mk H
    clear H
    go_wp2
    go_loopg [5] k1 (fun kq v5 w' => ∃ (x5_2 : Int) (x600001_2 : List (S56)) (u600001 : Value), v5 = .int .i64 x5_2 ∧ Aside0 (spec_paOf.l1 kq l0 x11_1 x5_2 (l0.length : Int) x11_1 (l0.length : Int) x600001_2 = some (r1, r2)) ∧ Aside0 (kq ≤ k1) ∧ Aside0 (Kd.R k56 56 w' w.heap.size (fun _ => True) u600001 x600001_2) ∧ Aside0 (w'.heap[gb598]? = some (.cells #[.int .i64 0, (.slice none 0 0)] 30 (0, 0))) ∧ Aside0 (w'.heap[gb599]? = some (.cells #[.int .i64 (l0.length : Int), u600001] 30 (0, 0))) ∧ Aside0 (Below w.heap.size w w'))
    case atStart => exact ⟨(wrap64 (x11_1 + 1)), (x600001_1), (u600001), rS_, H', ⟨Nat.le_refl _⟩, ⟨by (with_reducible repeat (first | apply Kd.qat | apply Kd.qas | apply Kd.R_drew)); exact HO_600001.out⟩, ⟨by (with_reducible repeat (first | refine qah ?_ _ | refine qaj ?_ | refine qai ?_ _)); exact BK598.out⟩, ⟨by (with_reducible repeat (first | refine qah ?_ _ | refine qaj ?_ | refine qai ?_ _)); exact BK599.out⟩, ⟨by repeat (first | (with_reducible first | exact HB.out | apply qad | apply qaa | apply qac | refine qae ?_ GE598.out | refine qae ?_ GE599.out) | exact HB.out)⟩⟩
    case round =>
     clear H'
     obtain ⟨x5_2, x600001_2, u600001, rfl, HA, HK2, HO_600001, BK598, BK599, HB⟩ := hrel
     cases gk with
     | zero => exact absurd HA.out (by simp [spec_paOf.l1])
     | succ k2 =>
      have H := HA.out
      clear HA
      simp only [spec_paOf.l1] at H
      by_cases c7 : x5_2 < (l0.length : Int)
      ·rw [if_pos c7] at H
       have c7b0 : decide (x5_2 < (l0.length : Int)) = true := decide_eq_true c7
       clear c7
       by_cases c8 : 0 ≤ x11_1
       ·rw [if_pos c8] at H
        have c8b0 : decide (0 ≤ x11_1) = true := decide_eq_true c8
        clear c8
        by_cases c9 : x11_1 < (l0.length : Int)
        ·rw [if_pos c9] at H
         have c9b0 : decide (x11_1 < (l0.length : Int)) = true := decide_eq_true c9
         clear c9
         by_cases c10 : 0 ≤ x5_2
         ·rw [if_pos c10] at H
          have c10b0 : decide (0 ≤ x5_2) = true := decide_eq_true c10
          clear c10
          by_cases c11 : x5_2 < ((rd_L4 l0 x11_1).length : Int)
          ·rw [if_pos c11] at H
           have c11b0 : decide (x5_2 < ((rd_L4 l0 x11_1).length : Int)) = true := decide_eq_true c11
           clear c11
           obtain ⟨bq12, hbq12⟩ : ∃ b_ : Bool, b_ = (rdOf false (rd_L4 l0 x11_1) x5_2) := ⟨_, rfl⟩
           replace H : (if bq12 = true then (if x600001_2.length < 8796093022208 then (spec_paOf.l1 k2 l0 x11_1 (wrap64 (x5_2 + 1)) (l0.length : Int) x11_1 (l0.length : Int) (x600001_2 ++ [(⟨x11_1, x5_2⟩ : S56)])) else (none)) else (spec_paOf.l1 k2 l0 x11_1 (wrap64 (x5_2 + 1)) (l0.length : Int) x11_1 (l0.length : Int) x600001_2)) = some (r1, r2) := by rw [← hbq12] at H; exact H
           have Nbq12 := Aside0.mk hbq12
           clear hbq12
           by_cases c13 : bq12 = true
           ·subst c13
            have H1 : (if x600001_2.length < 8796093022208 then (spec_paOf.l1 k2 l0 x11_1 (wrap64 (x5_2 + 1)) (l0.length : Int) x11_1 (l0.length : Int) (x600001_2 ++ [(⟨x11_1, x5_2⟩ : S56)])) else (none)) = some (r1, r2) := by rw [if_pos rfl] at H; exact H
            clear H
            have H := H1
            clear H1
            by_cases c14 : x600001_2.length < 8796093022208
            ·rw [if_pos c14] at H
             have LMc14 := Aside0.mk c14
             clear c14
             obtain ⟨y602, hy602⟩ : ∃ y_ : List (S56), y_ = (x600001_2 ++ [(⟨x11_1, x5_2⟩ : S56)]) := ⟨_, rfl⟩
             replace H : (spec_paOf.l1 k2 l0 x11_1 (wrap64 (x5_2 + 1)) (l0.length : Int) x11_1 (l0.length : Int) y602) = some (r1, r2) := by first | (rw [hy602]; with_reducible exact H) | (have H2_ := (Option.bind_some _ _).symm.trans H; rw [hy602]; with_reducible exact H2_) | (have H2_ := (Option.bind_some _ _).symm.trans H; with_reducible exact H2_) | with_reducible exact H | (rw [hy602]; exact H) | exact H
             have Ny602 := Aside0.mk hy602
             clear hy602
             have H' := Aside0.mk H
             clear H
             have p600 : 0 ≤ (x11_1 : Int) := oD_
             have q600 : x11_1 < (l0.length : Int) := oD_
             obtain ⟨ad600, A600_0, c600_0, e600, hx600_0, hl600_0, hi600_0⟩ := at_L4 HR0.out x11_1 p600 q600
             cases e600
             (try (replace hx600_0 := (HB.out.cell (World.block_lt_of_cell? w _ hx600_0)).trans hx600_0))
             have HR600_0 := Aside0.mk hi600_0
             have HC600_0 := Aside0.mk hl600_0
             clear hi600_0 hl600_0
             replace p600 := eq_true p600
             replace q600 := eq_true q600
             have p601 : 0 ≤ (x5_2 : Int) := oD_
             have q601 : x5_2 < ((rd_L4 l0 x11_1).length : Int) := oD_
             obtain ⟨ad601, e601, hx601_0⟩ := Kd.at_bool HR600_0.out x5_2 p601 q601
             (try rw [← Nbq12.out] at hx601_0)
             cases e601
             (try (replace hx601_0 := (HB.out.cell (World.block_lt_of_cell? w _ hx601_0)).trans hx601_0))
             replace p601 := eq_true p601
             replace q601 := eq_true q601
             have hnb15 := NB599_598.out
             have hnc15 := NB598_599.out
             have hcz16_0 : wr.cell? ⟨gb599, 0, none⟩ = some (.int .i64 (l0.length : Int)) := (qab BK599.out 0).trans rfl
             have hcz16_1 : wr.cell? ⟨gb599, 1, none⟩ = some (u600001) := (qab BK599.out 1).trans rfl
             have hfz16_0 := qaf BK599.out 0
             have hfz16_1 := qaf BK599.out 1
             go_wp2_with (first | ((with_reducible refine gate_builtin (b := .append) (xs := #[.tmp 30, .tmp 34]) rfl ?_); at_builtin; refine Kd.R_append k56 (w0 := w) w.heap.size rfl (.tmp 30) (.tmp 34) 28 56 (.agg #[(.int .i64 0), (.int .i64 0)]) 16 rfl Tryd.underlying28 info56 rfl (by decide) (by omega) u600001 x600001_2 (⟨x11_1, x5_2⟩ : S56) [.int .i64 x11_1, .int .i64 x5_2] (fun _ => True) (fun _ => False) rfl rfl ?aP (fun _ hk => hk.elim) ?aF ?aO ?aB ?aS ?aL ?_; (case aP => exact k56_mkM _ _ _ (⟨x11_1, x5_2⟩ : S56)); (case aB => exact (hB2_ GE598.out GE599.out)); (case aF => exact (fun _ _ => trivial)); (case aO => exact (uR_ HO_600001.out)); (case aS => exact (qal (hB2_ GE598.out GE599.out))); (case aL => have := LMc14.out; omega); intro v603 w17 ho hb hg hat; rw [← Ny602.out] at ho; have n0_ := Aside0.mk (blk_grown (g := gb598) (o := .cells #[.int .i64 0, .slice none 0 0] 30 (0, 0)) (uB_ BK598.out) hg (Kd.R_ne HO_600001.out BK598.out (by decide))); have n1_ := Aside0.mk (blk_grown (g := gb599) (o := .cells #[.int .i64 (l0.length : Int), u600001] 30 (0, 0)) (uB_ BK599.out) hg (Kd.R_ne HO_600001.out BK599.out (by decide))); have n2_ := Aside0.mk (hb); have n3_ := Aside0.mk (ho); clear BK598; clear BK599; clear HB; clear HO_600001; have BK598 := n0_; have BK599 := n1_; have HB := n2_; have HO604 := n3_; clear n0_ n1_ n2_ n3_; clear ho hb hg hat; obtain ⟨Ao18, co18, eo18⟩ := Kd.R_slice HO604.out; subst eo18; have hcz19_0 : w17.cell? ⟨gb599, 0, none⟩ = some (.int .i64 (l0.length : Int)) := (qab BK599.out 0).trans rfl; have hcz19_1 : w17.cell? ⟨gb599, 1, none⟩ = some (u600001) := (qab BK599.out 1).trans rfl; have hfz19_0 := qaf BK599.out 0; have hfz19_1 := qaf BK599.out 1))
             go_roundg k2
             case measure => have := HK1.out; have := HK2.out; omega
             case rel => exact ⟨(wrap64 (x5_2 + 1)), (y602), (.slice Ao18 y602.length co18), rS_, H', ⟨by have := HK1.out; have := HK2.out; omega⟩, ⟨by (with_reducible repeat (first | apply Kd.qat | apply Kd.qas | apply Kd.R_drew)); exact Kd.R_mono (Kd.R_far (p := ⟨gb599, 1, none⟩) (Kd.R_types HO604.out BK599.out (by decide)) (fun _ hk => hk.2) (.slice Ao18 y602.length co18)) (fun _ hk => trivial)⟩, ⟨by (with_reducible repeat (first | refine qah ?_ _ | refine qaj ?_ | refine qai ?_ _)); refine blk_far ?_ NB598_599.out _; (with_reducible repeat (first | refine qah ?_ _ | refine qaj ?_ | refine qai ?_ _)); exact BK598.out⟩, ⟨by (with_reducible repeat (first | refine qah ?_ _ | refine qaj ?_ | refine qai ?_ _)); refine blk_put (cs := #[.int .i64 (l0.length : Int), u600001]) ?_ 1 _ rfl; (with_reducible repeat (first | refine qah ?_ _ | refine qaj ?_ | refine qai ?_ _)); exact BK599.out⟩, ⟨by repeat (first | (with_reducible first | exact HB.out | apply qad | apply qaa | apply qac | refine qae ?_ GE598.out | refine qae ?_ GE599.out) | exact HB.out)⟩⟩
            ·rw [if_neg c14] at H
             exact absurd H (by simp)
           ·replace c13 := Bool.eq_false_iff.mpr c13
            subst c13
            have H1 : (spec_paOf.l1 k2 l0 x11_1 (wrap64 (x5_2 + 1)) (l0.length : Int) x11_1 (l0.length : Int) x600001_2) = some (r1, r2) := by rw [if_neg (show ¬ (false = true) by decide)] at H; exact H
            clear H
            have H := H1
            clear H1
            have H' := Aside0.mk H
            clear H
            have p600 : 0 ≤ (x11_1 : Int) := oD_
            have q600 : x11_1 < (l0.length : Int) := oD_
            obtain ⟨ad600, A600_0, c600_0, e600, hx600_0, hl600_0, hi600_0⟩ := at_L4 HR0.out x11_1 p600 q600
            cases e600
            (try (replace hx600_0 := (HB.out.cell (World.block_lt_of_cell? w _ hx600_0)).trans hx600_0))
            have HR600_0 := Aside0.mk hi600_0
            have HC600_0 := Aside0.mk hl600_0
            clear hi600_0 hl600_0
            replace p600 := eq_true p600
            replace q600 := eq_true q600
            have p601 : 0 ≤ (x5_2 : Int) := oD_
            have q601 : x5_2 < ((rd_L4 l0 x11_1).length : Int) := oD_
            obtain ⟨ad601, e601, hx601_0⟩ := Kd.at_bool HR600_0.out x5_2 p601 q601
            (try rw [← Nbq12.out] at hx601_0)
            cases e601
            (try (replace hx601_0 := (HB.out.cell (World.block_lt_of_cell? w _ hx601_0)).trans hx601_0))
            replace p601 := eq_true p601
            replace q601 := eq_true q601
            go_wp2
            go_roundg k2
            case measure => have := HK1.out; have := HK2.out; omega
            case rel => exact ⟨(wrap64 (x5_2 + 1)), (x600001_2), (u600001), rS_, H', ⟨by have := HK1.out; have := HK2.out; omega⟩, ⟨by (with_reducible repeat (first | apply Kd.qat | apply Kd.qas | apply Kd.R_drew)); exact HO_600001.out⟩, ⟨by (with_reducible repeat (first | refine qah ?_ _ | refine qaj ?_ | refine qai ?_ _)); exact BK598.out⟩, ⟨by (with_reducible repeat (first | refine qah ?_ _ | refine qaj ?_ | refine qai ?_ _)); exact BK599.out⟩, ⟨by repeat (first | (with_reducible first | exact HB.out | apply qad | apply qaa | apply qac | refine qae ?_ GE598.out | refine qae ?_ GE599.out) | exact HB.out)⟩⟩
          ·rw [if_neg c11] at H
           exact absurd H (by simp)
         ·rw [if_neg c10] at H
          exact absurd H (by simp)
        ·rw [if_neg c9] at H
         exact absurd H (by simp)
       ·rw [if_neg c8] at H
        exact absurd H (by simp)
      ·rw [if_neg c7] at H
       have c7b0 : decide (x5_2 < (l0.length : Int)) = false := decide_eq_false c7
       clear c7
       have H' := Aside0.mk H
       clear H
       go_wp2
       go_roundg k2
       case measure => have := HK1.out; have := HK2.out; omega
       case rel => exact ⟨(wrap64 (x11_1 + 1)), (x600001_2), (u600001), rS_, H', ⟨by have := HK1.out; have := HK2.out; omega⟩, ⟨by (with_reducible repeat (first | apply Kd.qat | apply Kd.qas | apply Kd.R_drew)); exact HO_600001.out⟩, ⟨by (with_reducible repeat (first | refine qah ?_ _ | refine qaj ?_ | refine qai ?_ _)); exact BK598.out⟩, ⟨by (with_reducible repeat (first | refine qah ?_ _ | refine qaj ?_ | refine qai ?_ _)); exact BK599.out⟩, ⟨by repeat (first | (with_reducible first | exact HB.out | apply qad | apply qaa | apply qac | refine qae ?_ GE598.out | refine qae ?_ GE599.out) | exact HB.out)⟩⟩
   ·rw [if_neg c6] at H
    have c6b0 : decide (x11_1 < (l0.length : Int)) = false := decide_eq_false c6
    clear c6
    simp only [Option.some.injEq, Prod.mk.injEq] at H
    obtain ⟨rfl, rfl⟩ := H
    have hnb20 := NB599_598.out
    have hnc20 := NB598_599.out
    have hcz21_0 : wr.cell? ⟨gb599, 0, none⟩ = some (.int .i64 (l0.length : Int)) := (qab BK599.out 0).trans rfl
    have hcz21_1 : wr.cell? ⟨gb599, 1, none⟩ = some (u600001) := (qab BK599.out 1).trans rfl
    have hfz21_0 := qaf BK599.out 0
    have hfz21_1 := qaf BK599.out 1
    have hcz22_0 : wr.cell? ⟨gb598, 0, none⟩ = some (.int .i64 0) := (qab BK598.out 0).trans rfl
    have hcz22_1 : wr.cell? ⟨gb598, 1, none⟩ = some (.slice none 0 0) := (qab BK598.out 1).trans rfl
    have hfz22_0 := qaf BK598.out 0
    have hfz22_1 := qaf BK598.out 1
    obtain ⟨Ao23, co23, eo23⟩ := Kd.R_slice HO_600001.out
    subst eo23
    go_wp2
    refine bodyPost_ret (results_cell_row rfl _ _ gb598 30 #[.int .i64 (l0.length : Int), .slice Ao23 x600001_1.length co23] (0, 0) _ rfl (by (with_reducible repeat (first | refine qah ?_ _ | refine qaj ?_ | refine qai ?_ _)); refine blk_put (cs := #[.int .i64 (l0.length : Int), .slice none 0 0]) ?_ 1 _ rfl; (with_reducible repeat (first | refine qah ?_ _ | refine qaj ?_ | refine qai ?_ _)); refine blk_put (cs := #[.int .i64 0, .slice none 0 0]) ?_ 0 _ rfl; (with_reducible repeat (first | refine qah ?_ _ | refine qaj ?_ | refine qai ?_ _)); exact BK598.out) Tryd.underlying30 rfl (by kernel_rfl)) rfl ?_
    exact ⟨_, by first | rfl | (simp [errW_none, errW_some] <;> rfl) | (simp [*, errW_none, errW_some] <;> rfl), by (with_reducible repeat (first | apply Kd.qat | apply Kd.qas | apply Kd.R_drew)); exact Kd.R_mono (Kd.R_far (p := ⟨gb598, 1, none⟩) (Kd.R_far (p := ⟨gb598, 0, none⟩) (Kd.R_types HO_600001.out BK598.out (by decide)) (fun _ hk => hk.2) (.int .i64 (l0.length : Int))) (fun _ hk => hk.2) (.slice Ao23 x600001_1.length co23)) (fun _ hk => trivial), by repeat (first | (with_reducible first | exact HB.out | apply qad | apply qaa | apply qac | refine qae ?_ GE598.out | refine qae ?_ GE599.out) | exact HB.out)⟩

end Go.Proofs.YtedfcbbklhfgcaaDoor.Q
namespace Go.Proofs.YtedfcbbklhfgcaaDoor.Q
open Go.RowKit Go.Proofs.YtedfcbbklhfgcaaDoorW.PrintWords Go.Proofs.YtedfcbbklhfgcaaDoorW.PrintLast Go.Proofs.YtedfcbbklhfgcaaDoorW.PrintMore
attribute [local go_sem] max2_int min2_int max_two min_two max_three min_three max_four min_four   -- for this text's walks alone
set_option linter.unusedVariables false
set_option linter.unusedSimpArgs false

/-! ### spec_paOther: function 46 -/
mutual
def spec_paOther.l0 : Nat → List (List Bool) → Int → Int → Option (Int × (List (S56)))
 | 0, _, _, _ => none
 | k + 1, x3, x9, x10 => if x10 < x9 then (spec_paOther.l1 k x3 x10 x9 x10 (x3.length : Int) 0) else ((spec_paOf.f k x3).bind fun bt610 => (some (bt610.1, bt610.2)))
def spec_paOther.l1 : Nat → List (List Bool) → Int → Int → Int → Int → Int → Option (Int × (List (S56)))
 | 0, _, _, _, _, _, _ => none
 | k + 1, x3, x4, x9, x10, x14, x15 => if x15 < x14 then (if 0 ≤ x4 then (if x4 < (x3.length : Int) then (if 0 ≤ x15 then (if x15 < ((rd_L4 x3 x4).length : Int) then (spec_paOther.l1 k (x3.set (x4 : Int).toNat ((rd_L4 x3 x4).set (x15 : Int).toNat (!(rdOf false (rd_L4 x3 x4) x15)))) x4 x9 x10 x14 (wrap64 (x15 + 1))) else (none)) else (none)) else (none)) else (none)) else (spec_paOther.l0 k x3 x9 (wrap64 (x10 + 1)))
end
def spec_paOther.f (k : Nat) (a0_0 : Int) (l0_1 : List (S56)) : Option (Int × (List (S56))) := (spec_paTable.f k a0_0 l0_1).bind fun t607 => (spec_paOther.l0 k t607 (t607.length : Int) 0)
theorem spec_paOther.mono_l : ∀ k, (∀ y0 y1 y2, LeO (spec_paOther.l0 k y0 y1 y2) (spec_paOther.l0 (k + 1) y0 y1 y2)) ∧ (∀ y0 y1 y2 y3 y4 y5, LeO (spec_paOther.l1 k y0 y1 y2 y3 y4 y5) (spec_paOther.l1 (k + 1) y0 y1 y2 y3 y4 y5))
 | 0 => ⟨fun _ _ _ r h => by simp [spec_paOther.l0] at h, fun _ _ _ _ _ _ r h => by simp [spec_paOther.l1] at h⟩
 | k + 1 => by
  obtain ⟨ih0, ih1⟩ := spec_paOther.mono_l k
  refine ⟨?_, ?_⟩
  ·intro y0 y1 y2
   unfold spec_paOther.l0
   repeat' first
   | (with_reducible exact ih0 _ _ _)
   | (with_reducible exact ih1 _ _ _ _ _ _)
   | (with_reducible exact spec_paOf.mono _ _)
   | (with_reducible exact spec_paTable.mono _ _ _)
   | (with_reducible exact LeO.refl _)
   | (with_reducible exact LeO.none _)
   | (with_reducible refine LeO.ite ?_ ?_)
   | (with_reducible refine LeO.bind ?_ (fun _ => ?_))
   | exact ih0 _ _ _
   | exact ih1 _ _ _ _ _ _
   | exact spec_paOf.mono _ _
   | exact spec_paTable.mono _ _ _
   | exact LeO.none _
   | refine LeO.ite ?_ ?_
   | refine LeO.bind ?_ (fun _ => ?_)
  ·intro y0 y1 y2 y3 y4 y5
   unfold spec_paOther.l1
   repeat' first
   | (with_reducible exact ih0 _ _ _)
   | (with_reducible exact ih1 _ _ _ _ _ _)
   | (with_reducible exact spec_paOf.mono _ _)
   | (with_reducible exact spec_paTable.mono _ _ _)
   | (with_reducible exact LeO.refl _)
   | (with_reducible exact LeO.none _)
   | (with_reducible refine LeO.ite ?_ ?_)
   | (with_reducible refine LeO.bind ?_ (fun _ => ?_))
   | exact ih0 _ _ _
   | exact ih1 _ _ _ _ _ _
   | exact spec_paOf.mono _ _
   | exact spec_paTable.mono _ _ _
   | exact LeO.none _
   | refine LeO.ite ?_ ?_
   | refine LeO.bind ?_ (fun _ => ?_)
theorem spec_paOther.mono : ∀ a0 a1 k, LeO (spec_paOther.f k a0 a1) (spec_paOther.f (k + 1) a0 a1) := by
 intro a0 a1 k
 obtain ⟨ih0, ih1⟩ := spec_paOther.mono_l k
 unfold spec_paOther.f
 repeat' first
   | (with_reducible exact ih0 _ _ _)
   | (with_reducible exact ih1 _ _ _ _ _ _)
   | (with_reducible exact spec_paOf.mono _ _)
   | (with_reducible exact spec_paTable.mono _ _ _)
   | (with_reducible exact LeO.refl _)
   | (with_reducible exact LeO.none _)
   | (with_reducible refine LeO.ite ?_ ?_)
   | (with_reducible refine LeO.bind ?_ (fun _ => ?_))
   | exact ih0 _ _ _
   | exact ih1 _ _ _ _ _ _
   | exact spec_paOf.mono _ _
   | exact spec_paTable.mono _ _ _
   | exact LeO.none _
   | refine LeO.ite ?_ ?_
   | refine LeO.bind ?_ (fun _ => ?_)
def spec_paOther.T8 : Bool × List (List Nat × List Nat) := (true, [([], []), ([], []), ([0, 1], [0, 1]), ([2], [2]), ([], []), ([], []), ([], []), ([5, 6], [5, 6]), ([7], [7]), ([], []), ([8, 9], [8, 9]), ([10], [10]), ([11], [11]), ([3, 4, 0, 1, 2, 3, 4, 5, 6, 7, 8, 9, 10, 11, 12], [3, 4]), ([13, 12, 0, 1, 2, 3, 4, 5, 6, 7, 8, 9, 10, 11, 12], [12, 13])])
def spec_paOther.B8 : List Nat := [0, 0, 3, 7, 0, 0, 0, 96, 224, 0, 992, 2016, 4064, 8191, 16383]
theorem spec_paOther.tab8 : rtab .any (opsOf Tryd.f46 8) = spec_paOther.T8 := by kernel_rfl
theorem spec_paOther.bits8 : waitsOk spec_paOther.T8.2 spec_paOther.B8 = true := by kernel_rfl
set_option maxHeartbeats 8000000 in
set_option maxRecDepth 100000 in
theorem spec_paOther.calls (k : Nat) (a0_0 : Int) (A0_1 : Option Addr) (c0_1 : Nat) (l0_1 : List (S56)) (r1 : Int) (r2 : List (S56)) (w : World) (hr0_1 : Kd.C k56 w A0_1 l0_1.length l0_1) (hc0_1 : l0_1.length ≤ c0_1) (h : spec_paOther.f k a0_0 l0_1 = some (r1, r2)) :
  Calls Tryd.prog 46 #[.agg #[.int .i64 a0_0, .slice A0_1 l0_1.length c0_1]] w fun e w' => ∃ v1_ : Value, e = .returned (.agg #[.int .i64 r1, v1_]) ∧ Kd.R k56 56 w' w.heap.size (fun _ => True) v1_ r2 ∧ Below w.heap.size w w' := by
 have hu30 := Tryd.underlying30
 have HR0_1 := Aside0.mk hr0_1
 have HC0_1 := Aside0.mk hc0_1
 clear hr0_1 hc0_1
 have HB := Aside0.mk (Below.refl w.heap.size w)
 have H : ((spec_paTable.f k a0_0 l0_1).bind fun t607 => (spec_paOther.l0 k t607 (t607.length : Int) 0)) = some (r1, r2) := h
 clear h
 replace H := Option.bind_eq_some_iff.mp H
 obtain ⟨t607, A20, H⟩ := H
 replace H : (spec_paOther.l0 k t607 (t607.length : Int) 0) = some (r1, r2) := H
 have A2 := Aside0.mk A20
 clear A20
 have H' := Aside0.mk H
 clear H
 go_enter Tryd.func46, Tryd.ntmps46
 go_wp2_with (first | ((with_reducible refine gate_dst (N := 1) rfl ?_); refine box_event ?hg (N := 1) ?hd (cs := #[.int .i64 a0_0, .slice A0_1 l0_1.length c0_1]) (t := 30) ?hr ?_; (case hd => rfl); (case hg => rfl); (case hr => first | (go_simp; done) | (go_simp; rfl)); intro gb605 hg w3 hbox hb; have n0_ := Aside0.mk (qak hB_ hb); have n1_ := Aside0.mk (hbox); have n2_ := Aside0.mk ((by rw [hg]; exact (qal hB_) : w.heap.size ≤ gb605)); have n3_ := n2_; clear HB; have HB := n0_; have BK605 := n1_; have GW605 := n2_; have GE605 := n3_; clear n0_ n1_ n2_ n3_; clear hb hbox hg) | ((with_reducible refine gate_dst (N := 2) rfl ?_); refine box_event ?hg (N := 2) ?hd (cs := #[.int .i64 0, .slice none 0 0]) (t := 30) ?hr ?_; (case hd => rfl); (case hg => rfl); (case hr => first | (go_simp; done) | (go_simp; rfl)); intro gb606 hg w4 hbox hb; have n0_ := Aside0.mk (qap (g := gb605) (o := .cells #[.int .i64 a0_0, .slice A0_1 l0_1.length c0_1] 30 (0, 0)) (uB_ BK605.out) hb); have n1_ := Aside0.mk (qak (hB1_ GE605.out) hb); have n2_ := Aside0.mk (hbox); have n3_ := Aside0.mk ((by rw [hg]; exact (qal (hB1_ GE605.out)) : w.heap.size ≤ gb606)); have n4_ := n3_; have n5_ := Aside0.mk ((by rw [hg]; exact Nat.ne_of_lt (blk_lt (g := gb605) (o := .cells #[.int .i64 a0_0, .slice A0_1 l0_1.length c0_1] 30 (0, 0)) (uB_ BK605.out)) : gb605 ≠ gb606)); have n6_ := Aside0.mk n5_.out.symm; clear BK605; clear HB; have BK605 := n0_; have HB := n1_; have BK606 := n2_; have GW606 := n3_; have GE606 := n4_; have NB605_606 := n5_; have NB606_605 := n6_; clear n0_ n1_ n2_ n3_ n4_ n5_ n6_; clear hb hbox hg; have hnb5 := NB605_606.out; have hnc5 := NB606_605.out; have hcz6_0 : w4.cell? ⟨gb605, 0, none⟩ = some (.int .i64 a0_0) := (qab BK605.out 0).trans rfl; have hcz6_1 : w4.cell? ⟨gb605, 1, none⟩ = some (.slice A0_1 l0_1.length c0_1) := (qab BK605.out 1).trans rfl; have hfz6_0 := qaf BK605.out 0; have hfz6_1 := qaf BK605.out 1) | ((with_reducible refine qao (f := 29) rfl ?_); refine goesL_ (some 7) rfl rfl Tryd.func29 (by kernel_rfl) rfl #[.agg #[.int .i64 a0_0, .slice A0_1 l0_1.length c0_1]] rfl mT_ ?_; (with_reducible refine (spec_paTable.calls k a0_0 _ _ l0_1 t607 _ ?side1 ?side2 A2.out).mono ?_); (case side1 => repeat (first | exact (Kd.C_below HR0_1.out HB.out) | (with_reducible refine Kd.C_alloc ?_ _) | (with_reducible refine Kd.C_drewN ?_ _) | (with_reducible refine Kd.C_drew ?_))); (case side2 => exact HC0_1.out); rintro e w7 ⟨v608, rfl, ho0, hb⟩; refine ⟨_, rfl, ?_⟩; have n0_ := Aside0.mk (Kd.S_lower ho0 (qal (hB2_ GE605.out GE606.out))); have n1_ := Aside0.mk (qap (g := gb605) (o := .cells #[.int .i64 a0_0, .slice A0_1 l0_1.length c0_1] 30 (0, 0)) (uB_ BK605.out) hb); have n2_ := Aside0.mk (qap (g := gb606) (o := .cells #[.int .i64 0, .slice none 0 0] 30 (0, 0)) (uB_ BK606.out) hb); have n3_ := Aside0.mk (qak (hB2_ GE605.out GE606.out) hb); clear BK605; clear BK606; clear HB; have HO609 := n0_; have BK605 := n1_; have BK606 := n2_; have HB := n3_; clear n0_ n1_ n2_ n3_; (try clear hb); (try clear hb2); (try clear hk); (try clear hi); (try clear ho0); obtain ⟨Ao8, co8, eo8⟩ := Kd.S_slice HO609.out; subst eo8))
 go_loopg [10] k (fun kq v10 w' => ∃ (x3_1 : List (List Bool)) (x10_1 : Int), v10 = .int .i64 x10_1 ∧ Aside0 (spec_paOther.l0 kq x3_1 (t607.length : Int) x10_1 = some (r1, r2)) ∧ Aside0 (kq ≤ k) ∧ Aside0 (Kd.S (Kd.slice 4 Kd.bool) 57 w' w.heap.size (fun _ => True) (.slice Ao8 t607.length co8) x3_1) ∧ Aside0 (w'.heap[gb605]? = some (.cells #[.int .i64 a0_0, (.slice A0_1 l0_1.length c0_1)] 30 (0, 0))) ∧ Aside0 (w'.heap[gb606]? = some (.cells #[.int .i64 0, (.slice none 0 0)] 30 (0, 0))) ∧ Aside0 (Below w.heap.size w w'))
 case atStart => exact ⟨(t607), (0), rS_, H', ⟨Nat.le_refl _⟩, ⟨by (with_reducible repeat (first | apply Kd.S_alloc | apply Kd.S_drewN | apply Kd.S_drew)); exact HO609.out⟩, ⟨by (with_reducible repeat (first | refine qah ?_ _ | refine qaj ?_ | refine qai ?_ _)); exact BK605.out⟩, ⟨by (with_reducible repeat (first | refine qah ?_ _ | refine qaj ?_ | refine qai ?_ _)); exact BK606.out⟩, ⟨by repeat (first | (with_reducible first | exact HB.out | apply qad | apply qaa | apply qac | refine qae ?_ GE605.out | refine qae ?_ GE606.out) | exact HB.out)⟩⟩
 case round =>
  clear H'
  obtain ⟨x3_1, x10_1, rfl, HA, HK1, HO_3, BK605, BK606, HB⟩ := hrel
  have hl3_1 := (Kd.S_reads' HO_3.out).1
  rw [hl3_1] at HO_3
  (try simp only [hl3_1])
  (try simp only [hl3_1] at BK605)
  (try simp only [hl3_1] at BK606)
  cases gk with
  | zero => exact absurd HA.out (by simp [spec_paOther.l0])
  | succ k1 =>
   have H := HA.out
   clear HA
   simp only [spec_paOther.l0] at H
   by_cases c9 : x10_1 < (t607.length : Int)
   ·rw [if_pos c9] at H
    have c9b0 : decide (x10_1 < (t607.length : Int)) = true := decide_eq_true c9
    (try (have c9b0_0 := c9b0; simp only [hl3_1] at c9b0_0))
    clear c9
    have H' := Aside0.mk H
    clear H
    go_wp2
    go_loopg [15] k1 (fun kq v15 w' => ∃ (x3_2 : List (List Bool)) (x15_2 : Int), v15 = .int .i64 x15_2 ∧ Aside0 (spec_paOther.l1 kq x3_2 x10_1 (t607.length : Int) x10_1 (x3_1.length : Int) x15_2 = some (r1, r2)) ∧ Aside0 (kq ≤ k1) ∧ Aside0 (Kd.S (Kd.slice 4 Kd.bool) 57 w' w.heap.size (fun _ => True) (.slice Ao8 x3_1.length co8) x3_2) ∧ Aside0 (w'.heap[gb605]? = some (.cells #[.int .i64 a0_0, (.slice A0_1 l0_1.length c0_1)] 30 (0, 0))) ∧ Aside0 (w'.heap[gb606]? = some (.cells #[.int .i64 0, (.slice none 0 0)] 30 (0, 0))) ∧ Aside0 (Below w.heap.size w w'))
    case atStart => exact ⟨(x3_1), (0), rS_, H', ⟨Nat.le_refl _⟩, ⟨by (try simp only [hl3_1]); (with_reducible repeat (first | apply Kd.S_alloc | apply Kd.S_drewN | apply Kd.S_drew)); exact HO_3.out⟩, ⟨by (try simp only [hl3_1]); (with_reducible repeat (first | refine qah ?_ _ | refine qaj ?_ | refine qai ?_ _)); exact BK605.out⟩, ⟨by (try simp only [hl3_1]); (with_reducible repeat (first | refine qah ?_ _ | refine qaj ?_ | refine qai ?_ _)); exact BK606.out⟩, ⟨by repeat (first | (with_reducible first | exact HB.out | apply qad | apply qaa | apply qac | refine qae ?_ GE605.out | refine qae ?_ GE606.out) | exact HB.out)⟩⟩
    case round =>
     clear H'
     obtain ⟨x3_2, x15_2, rfl, HA, HK2, HO_3, BK605, BK606, HB⟩ := hrel
     have hl3_2 := (Kd.S_reads' HO_3.out).1
     rw [hl3_2] at HO_3
     (try simp only [hl3_2])
     (try simp only [hl3_2] at BK605)
     (try simp only [hl3_2] at BK606)
     cases gk with
     | zero => exact absurd HA.out (by simp [spec_paOther.l1])
     | succ k2 =>
      have H := HA.out
      clear HA
      simp only [spec_paOther.l1] at H
      by_cases c10 : x15_2 < (x3_1.length : Int)
      ·rw [if_pos c10] at H
       have c10b0 : decide (x15_2 < (x3_1.length : Int)) = true := decide_eq_true c10
       (try (have c10b0_0 := c10b0; simp only [hl3_1] at c10b0_0)); (try (have c10b0_1 := c10b0; simp only [hl3_2] at c10b0_1))
       clear c10
       by_cases c11 : 0 ≤ x10_1
       ·rw [if_pos c11] at H
        have c11b0 : decide (0 ≤ x10_1) = true := decide_eq_true c11
        clear c11
        by_cases c12 : x10_1 < (x3_2.length : Int)
        ·rw [if_pos c12] at H
         have c12b0 : decide (x10_1 < (x3_2.length : Int)) = true := decide_eq_true c12
         (try (have c12b0_0 := c12b0; simp only [hl3_1] at c12b0_0)); (try (have c12b0_1 := c12b0; simp only [hl3_2] at c12b0_1))
         clear c12
         by_cases c13 : 0 ≤ x15_2
         ·rw [if_pos c13] at H
          have c13b0 : decide (0 ≤ x15_2) = true := decide_eq_true c13
          clear c13
          by_cases c14 : x15_2 < ((rd_L4 x3_2 x10_1).length : Int)
          ·rw [if_pos c14] at H
           have c14b0 : decide (x15_2 < ((rd_L4 x3_2 x10_1).length : Int)) = true := decide_eq_true c14
           (try (have c14b0_0 := c14b0; simp only [hl3_1] at c14b0_0)); (try (have c14b0_1 := c14b0; simp only [hl3_2] at c14b0_1))
           clear c14
           obtain ⟨y617, hy617⟩ : ∃ y_ : List Bool, y_ = ((rd_L4 x3_2 x10_1).set (x15_2 : Int).toNat (!(rdOf false (rd_L4 x3_2 x10_1) x15_2))) := ⟨_, rfl⟩
           replace H : (spec_paOther.l1 k2 (x3_2.set (x10_1 : Int).toNat y617) x10_1 (t607.length : Int) x10_1 (x3_1.length : Int) (wrap64 (x15_2 + 1))) = some (r1, r2) := by first | (rw [hy617]; with_reducible exact H) | (have H2_ := (Option.bind_some _ _).symm.trans H; rw [hy617]; with_reducible exact H2_) | (have H2_ := (Option.bind_some _ _).symm.trans H; with_reducible exact H2_) | with_reducible exact H | (rw [hy617]; exact H) | exact H
           have Ny617 := Aside0.mk hy617
           clear hy617
           obtain ⟨y619, hy619⟩ : ∃ y_ : List (List Bool), y_ = (x3_2.set (x10_1 : Int).toNat y617) := ⟨_, rfl⟩
           replace H : (spec_paOther.l1 k2 y619 x10_1 (t607.length : Int) x10_1 (x3_1.length : Int) (wrap64 (x15_2 + 1))) = some (r1, r2) := by first | (rw [hy619]; with_reducible exact H) | (have H2_ := (Option.bind_some _ _).symm.trans H; rw [hy619]; with_reducible exact H2_) | (have H2_ := (Option.bind_some _ _).symm.trans H; with_reducible exact H2_) | with_reducible exact H | (rw [hy619]; exact H) | exact H
           have Ny619 := Aside0.mk hy619
           clear hy619
           have H' := Aside0.mk H
           clear H
           try go_wp2
           have n0_ := Aside0.mk (Kd.S_drew HO_3.out)
           have n1_ := Aside0.mk (qaj BK605.out)
           have n2_ := Aside0.mk (qaj BK606.out)
           have n3_ := Aside0.mk (qac HB.out)
           clear HO_3
           clear BK605
           clear BK606
           clear HB
           have HO_3 := n0_
           have BK605 := n1_
           have BK606 := n2_
           have HB := n3_
           clear n0_ n1_ n2_ n3_
           have p614 : 0 ≤ (x10_1 : Int) := oD_
           have q614 : x10_1 < (x3_2.length : Int) := oD_
           obtain ⟨ad614, A614_0, c614_0, e614, hx614_0, hl614_0, hi614_0⟩ := at_L4 (Kd.S_reads' HO_3.out).2.2 x10_1 p614 q614
           cases e614
           obtain ⟨ce614, hce614, hMe614, hcc614⟩ := Kd.S_get HO_3.out [] x10_1 p614 (by first | exact q614 | exact oD_ | (have e_ := (Kd.S_reads' HO_3.out).1; omega))
           obtain ⟨ve614_0, rfl, ge614_0⟩ := hMe614
           have hv614_0 := hcc614 0 _ rfl
           rw [Nat.add_zero, show ((Kd.slice 4 Kd.bool)).sz = 1 from rfl, Nat.mul_one] at hv614_0
           replace hv614_0 := Option.some.inj (hv614_0.symm.trans hx614_0)
           rw [hv614_0] at ge614_0
           have HL614_0 := Aside0.mk (show Kd.R Kd.bool 4 _ _ _ _ (rd_L4 x3_2 x10_1) from ge614_0)
           clear hv614_0 ge614_0
           have HX614_0 := Aside0.mk hx614_0
           clear hcc614 hce614
           have HR614_0 := Aside0.mk hi614_0
           have HC614_0 := Aside0.mk hl614_0
           clear hi614_0 hl614_0
           replace p614 := eq_true p614
           replace q614 := eq_true q614
           have p615 : 0 ≤ (x10_1 : Int) := oD_
           have q615 : x10_1 < (x3_2.length : Int) := oD_
           obtain ⟨ad615, A615_0, c615_0, e615, hx615_0, hl615_0, hi615_0⟩ := at_L4 (Kd.S_reads' HO_3.out).2.2 x10_1 p615 q615
           obtain rfl : ad614 = ad615 := (by injection e615)
           obtain ⟨ce615, hce615, hMe615, hcc615⟩ := Kd.S_get HO_3.out [] x10_1 p615 (by first | exact q615 | exact oD_ | (have e_ := (Kd.S_reads' HO_3.out).1; omega))
           obtain ⟨ve615_0, rfl, ge615_0⟩ := hMe615
           have hv615_0 := hcc615 0 _ rfl
           rw [Nat.add_zero, show ((Kd.slice 4 Kd.bool)).sz = 1 from rfl, Nat.mul_one] at hv615_0
           replace hv615_0 := Option.some.inj (hv615_0.symm.trans hx615_0)
           rw [hv615_0] at ge615_0
           have HL615_0 := Aside0.mk (show Kd.R Kd.bool 4 _ _ _ _ (rd_L4 x3_2 x10_1) from ge615_0)
           clear hv615_0 ge615_0
           have HX615_0 := Aside0.mk hx615_0
           clear hcc615 hce615
           have HR615_0 := Aside0.mk hi615_0
           have HC615_0 := Aside0.mk hl615_0
           clear hi615_0 hl615_0
           replace p615 := eq_true p615
           replace q615 := eq_true q615
           have ea_ := Option.some.inj (hx614_0.symm.trans hx615_0)
           injection ea_ with ea_ en_ ec_
           subst ea_
           subst ec_
           clear en_
           have p616 : 0 ≤ (x15_2 : Int) := oD_
           have q616 : x15_2 < ((rd_L4 x3_2 x10_1).length : Int) := oD_
           obtain ⟨ad616, e616, hx616_0⟩ := Kd.at_bool (by repeat (first | (with_reducible exact HR615_0.out) | (with_reducible refine Kd.C_alloc ?_ _) | (with_reducible refine Kd.C_drewN ?_ _) | (with_reducible refine Kd.C_drew ?_) | exact HR615_0.out)) x15_2 p616 q616
           cases e616
           replace p616 := eq_true p616
           replace q616 := eq_true q616
           have p15 : 0 ≤ (x15_2 : Int) := oD_
           have q15 : (x15_2 : Int) < (((rd_L4 x3_2 x10_1).length : Int) : Int) := oD_
           obtain ⟨go15, co15, eo15, gb15, gl15, cl15, HG15⟩ := Kd.R_form HL614_0.out (by omega)
           (first | cases eo15 | (injection eo15 with ea_ en_ ec_; (first | subst ea_ | (injection ea_ with ea_; subst ea_)); subst ec_; clear en_))
           have GB15 := Aside0.mk gb15
           have GG15 := Aside0.mk HG15
           clear gb15 gl15 HG15
           (first | simp only [add_plain] at hx616_0 | skip)
           obtain ⟨hx15_0, hf15_0⟩ := Kd.R_celln false HL614_0.out (x15_2 : Int) p15 q15
           replace p15 := eq_true p15
           replace q15 := eq_true q15
           have hq17 : (x10_1 : Int) < (x3_2.length : Int) := (by have h_ : (x10_1 : Int) < ((x3_2.length : Int) : Int) := oD_; first | exact h_ | (have e_ := (Kd.S_reads' HO_3.out).1; omega) | simpa only [List.length_set, List.length_set] using h_)
           obtain ⟨oki17, ce17, hcl17, hM17, hcc17, hok17, hbk17⟩ := Kd.S_borrow HO_3.out [] (x10_1 : Int) (oD_) (by first | exact hq17 | exact oD_ | (have e_ := (Kd.S_reads' HO_3.out).1; omega))
           obtain ⟨ve17_0, rfl, ge17_0⟩ := hM17
           have hv17 := hcc17 0 _ rfl
           rw [Nat.add_zero, show ((Kd.slice 4 Kd.bool)).sz = 1 from rfl, Nat.mul_one] at hv17
           replace hv17 := Option.some.inj (hv17.symm.trans HX614_0.out)
           subst hv17
           clear hcc17 hcl17
           replace ge17_0 := (show Kd.R Kd.bool 4 _ _ _ _ (rd_L4 x3_2 x10_1) from ge17_0)
           have HP17 := Kd.R_putg ge17_0 (x15_2 : Int) (!(rdOf false (rd_L4 x3_2 x10_1) x15_2))
           rw [← Ny617.out] at HP17
           have HS17 := hbk17 HP17.2 (fun k_ e_ => by injection e_ with e_; subst e_; exact ge17_0.1 _ rfl) (x' := y617) (Kd.M_row HP17.1)
           rw [← Ny619.out] at HS17
           have HQ17 := Aside0.mk HS17
           clear HP17 HS17 hbk17 hok17
           refine start_ (n := 15) (S := fun w' => w'.cell? (ad614.add (x10_1).toNat) = some (.slice (some ⟨go15, 0, none⟩) (rd_L4 x3_2 x10_1).length c614_0) ∧ w'.cell? (ad614.add (x10_1).toNat) = some (.slice (some ⟨go15, 0, none⟩) (rd_L4 x3_2 x10_1).length c614_0) ∧ w'.cell? ⟨go15, (x15_2).toNat, none⟩ = some (.bool (rdOf false (rd_L4 x3_2 x10_1) x15_2))) (ds := [14]) #[fF,fF,fF,fF,fF,fF,fF,fF,fF,fF,fF,fF,fF,fF,fF] (by kernel_rfl) rfl rfl ⟨hx614_0, hx615_0, hx616_0⟩ (fun hHeld => ?_); refine with_tabW spec_paOther.tab8 spec_paOther.bits8 (fun HT_ HW_ => ?_)
           generalize wr.drew = w16 at HO_3 BK605 BK606 HB GG15 HL614_0 HL615_0 HQ17 HR614_0 HR615_0 HX614_0 HX615_0 hf15_0 hx15_0 hx614_0 hx615_0 hx616_0 hHeld ⊢
           refine qar (i := 0) (N := some 18) (v := ?_) (a' := ?_) #[tT,fF,fF,fF,fF,fF,fF,fF,fF,fF,fF,fF,fF,fF,fF] rfl rfl (aO_ HT_.out) (fun _ _ _ h => h) (.inl ⟨by rfl, ?_⟩) ?_ ?_
           rotate_left
           ·intro w'
            go_simp
            with_reducible rfl
           rotate_left
           ·simp only [Act.put, sP_, qam, qan]
            rfl
           refine qar (i := 1) (N := some 19) (v := ?_) (a' := ?_) #[tT,tT,fF,fF,fF,fF,fF,fF,fF,fF,fF,fF,fF,fF,fF] rfl rfl (aO_ HT_.out) (fun _ _ _ h => h) (.inl ⟨by rfl, ?_⟩) ?_ ?_
           rotate_left
           ·intro w'
            go_simp
            with_reducible rfl
           rotate_left
           ·simp only [Act.put, sP_, qam, qan]
            rfl
           refine qar (i := 2) (N := some 20) (v := ?_) (a' := ?_) #[tT,tT,tT,fF,fF,fF,fF,fF,fF,fF,fF,fF,fF,fF,fF] rfl rfl (aO_ HT_.out) (fun _ _ _ h => h) (.inl ⟨by rfl, ?_⟩) ?_ ?_
           rotate_left
           ·intro w'
            go_simp
            with_reducible rfl
           rotate_left
           ·simp only [Act.put, sP_, qam, qan]
            rfl
           refine qar (i := 4) (N := some 22) (v := ?_) (a' := ?_) #[tT,tT,tT,fF,tT,fF,fF,fF,fF,fF,fF,fF,fF,fF,fF] rfl rfl (aO_ HT_.out) (fun _ _ _ h => h) (.inl ⟨by rfl, ?_⟩) ?_ ?_
           rotate_left
           ·intro w'
            go_simp
            with_reducible rfl
           rotate_left
           ·simp only [Act.put, sP_, qam, qan]
            rfl
           refine qar (i := 5) (N := some 23) (v := ?_) (a' := ?_) #[tT,tT,tT,fF,tT,tT,fF,fF,fF,fF,fF,fF,fF,fF,fF] rfl rfl (aO_ HT_.out) (fun _ _ _ h => h) (.inl ⟨by rfl, ?_⟩) ?_ ?_
           rotate_left
           ·intro w'
            go_simp
            with_reducible rfl
           rotate_left
           ·simp only [Act.put, sP_, qam, qan]
            rfl
           refine qar (i := 6) (N := some 24) (v := ?_) (a' := ?_) #[tT,tT,tT,fF,tT,tT,tT,fF,fF,fF,fF,fF,fF,fF,fF] rfl rfl (aO_ HT_.out) (fun _ _ _ h => h) (.inl ⟨by rfl, ?_⟩) ?_ ?_
           rotate_left
           ·intro w'
            go_simp
            with_reducible rfl
           rotate_left
           ·simp only [Act.put, sP_, qam, qan]
            rfl
           refine qar (i := 7) (N := some 25) (v := ?_) (a' := ?_) #[tT,tT,tT,fF,tT,tT,tT,tT,fF,fF,fF,fF,fF,fF,fF] rfl rfl (aO_ HT_.out) (fun _ _ _ h => h) (.inl ⟨by rfl, ?_⟩) ?_ ?_
           rotate_left
           ·intro w'
            go_simp
            with_reducible rfl
           rotate_left
           ·simp only [Act.put, sP_, qam, qan]
            rfl
           refine qar (i := 9) (N := some 27) (v := ?_) (a' := ?_) #[tT,tT,tT,fF,tT,tT,tT,tT,fF,tT,fF,fF,fF,fF,fF] rfl rfl (aO_ HT_.out) (fun _ _ _ h => h) (.inl ⟨by rfl, ?_⟩) ?_ ?_
           rotate_left
           ·intro w'
            go_simp
            with_reducible rfl
           rotate_left
           ·simp only [Act.put, sP_, qam, qan]
            rfl
           refine take_ (i := 3) (N := some 21) (v := ?_) (a' := ?_) #[tT,tT,tT,tT,tT,tT,tT,tT,fF,tT,fF,fF,fF,fF,fF] rfl rfl (take_ofW HT_.out HW_.out (by kernel_rfl)) (fun _ _ _ h => h) (Or.inl ⟨by rfl, ?_⟩) hHeld ?_ ?_
           rotate_left
           ·rintro w' ⟨s0, s1, s2⟩
            go_simp
            with_reducible rfl
           rotate_left
           ·simp only [Act.put, sP_, qam, qan]
            rfl
           refine take_ (i := 8) (N := some 26) (v := ?_) (a' := ?_) #[tT,tT,tT,tT,tT,tT,tT,tT,tT,tT,fF,fF,fF,fF,fF] rfl rfl (take_ofW HT_.out HW_.out (by kernel_rfl)) (fun _ _ _ h => h) (Or.inl ⟨by rfl, ?_⟩) hHeld ?_ ?_
           rotate_left
           ·rintro w' ⟨s0, s1, s2⟩
            go_simp
            with_reducible rfl
           rotate_left
           ·simp only [Act.put, sP_, qam, qan]
            rfl
           refine qar (i := 10) (N := some 28) (v := ?_) (a' := ?_) #[tT,tT,tT,tT,tT,tT,tT,tT,tT,tT,tT,fF,fF,fF,fF] rfl rfl (aO_ HT_.out) (fun _ _ _ h => h) (.inl ⟨by rfl, ?_⟩) ?_ ?_
           rotate_left
           ·intro w'
            go_simp
            with_reducible rfl
           rotate_left
           ·simp only [Act.put, sP_, qam, qan]
            rfl
           refine take_ (i := 11) (N := some 29) (v := ?_) (a' := ?_) #[tT,tT,tT,tT,tT,tT,tT,tT,tT,tT,tT,tT,fF,fF,fF] rfl rfl (take_ofW HT_.out HW_.out (by kernel_rfl)) (fun _ _ _ h => h) (Or.inl ⟨by rfl, ?_⟩) hHeld ?_ ?_
           rotate_left
           ·rintro w' ⟨s0, s1, s2⟩
            go_simp
            with_reducible rfl
           rotate_left
           ·simp only [Act.put, sP_, qam, qan]
            rfl
           refine qar (i := 12) (N := some 30) (v := ?_) (a' := ?_) #[tT,tT,tT,tT,tT,tT,tT,tT,tT,tT,tT,tT,tT,fF,fF] rfl rfl (aO_ HT_.out) (fun _ _ _ h => h) (.inl ⟨by rfl, ?_⟩) ?_ ?_
           rotate_left
           ·intro w'
            go_simp
            with_reducible rfl
           rotate_left
           ·simp only [Act.put, sP_, qam, qan]
            rfl
           refine qar (i := 13) (N := some 31) (v := ?_) (a' := ?_) #[tT,tT,tT,tT,tT,tT,tT,tT,tT,tT,tT,tT,tT,tT,fF] rfl rfl (aO_ HT_.out) (fun _ _ _ h => h) (.inl ⟨by rfl, ?_⟩) ?_ ?_
           rotate_left
           ·intro w'
            go_simp
            with_reducible rfl
           rotate_left
           ·simp only [Act.put, sP_, qam, qan]
            rfl
           refine last_ (i := 14) (N := none) #[tT,tT,tT,tT,tT,tT,tT,tT,tT,tT,tT,tT,tT,tT,tT] rfl rfl (one_of HT_.out (by kernel_rfl)) (by decide) (fun K hK => ?_)
           refine skip_ (w1 := ?_) (by rfl) rfl ?_ ?_
           rotate_left
           ·go_simp
            rfl
           refine hK.out _ _ ?_
           clear hK K
           refine done_ (done_of HT_.out (by kernel_rfl)) ?_
           try go_wp2
           (try simp only [← hl3_2])
           go_roundg k2
           case measure => have := HK1.out; have := HK2.out; omega
           case rel => exact ⟨(y619), (wrap64 (x15_2 + 1)), rS_, H', ⟨by have := HK1.out; have := HK2.out; omega⟩, ⟨by (try simp only [hl3_1]); (try simp only [hl3_2]); (with_reducible repeat (first | apply Kd.S_alloc | apply Kd.S_drewN | apply Kd.S_drew)); exact HQ17.out⟩, ⟨by (try simp only [hl3_1]); (try simp only [hl3_2]); (with_reducible repeat (first | refine qah ?_ _ | refine qaj ?_ | refine qai ?_ _)); refine blk_far ?_ (by have h_ := Kd.R_ne HL614_0.out BK605.out (by decide); intro e_; exact h_ (by rw [e_]; rfl)) _; (with_reducible repeat (first | refine qah ?_ _ | refine qaj ?_ | refine qai ?_ _)); exact BK605.out⟩, ⟨by (try simp only [hl3_1]); (try simp only [hl3_2]); (with_reducible repeat (first | refine qah ?_ _ | refine qaj ?_ | refine qai ?_ _)); refine blk_far ?_ (by have h_ := Kd.R_ne HL614_0.out BK606.out (by decide); intro e_; exact h_ (by rw [e_]; rfl)) _; (with_reducible repeat (first | refine qah ?_ _ | refine qaj ?_ | refine qai ?_ _)); exact BK606.out⟩, ⟨by repeat (first | (with_reducible first | exact HB.out | apply qad | apply qaa | apply qac | refine qae ?_ GB15.out | refine qae ?_ GE605.out | refine qae ?_ GE606.out) | exact HB.out)⟩⟩
          ·rw [if_neg c14] at H
           exact absurd H (by simp)
         ·rw [if_neg c13] at H
          exact absurd H (by simp)
        ·rw [if_neg c12] at H
         exact absurd H (by simp)
       ·rw [if_neg c11] at H
        exact absurd H (by simp)
      ·rw [if_neg c10] at H
       have c10b0 : decide (x15_2 < (x3_1.length : Int)) = false := decide_eq_false c10
       (try (have c10b0_0 := c10b0; simp only [hl3_1] at c10b0_0)); (try (have c10b0_1 := c10b0; simp only [hl3_2] at c10b0_1))
       clear c10
       have H' := Aside0.mk H
       clear H
       go_wp2
       (try simp only [← hl3_1, ← hl3_2])
       go_roundg k2
       case measure => have := HK1.out; have := HK2.out; omega
       case rel => exact ⟨(x3_2), (wrap64 (x10_1 + 1)), rS_, H', ⟨by have := HK1.out; have := HK2.out; omega⟩, ⟨by (try simp only [hl3_1]); (try simp only [hl3_2]); (with_reducible repeat (first | apply Kd.S_alloc | apply Kd.S_drewN | apply Kd.S_drew)); exact HO_3.out⟩, ⟨by (try simp only [hl3_1]); (try simp only [hl3_2]); (with_reducible repeat (first | refine qah ?_ _ | refine qaj ?_ | refine qai ?_ _)); exact BK605.out⟩, ⟨by (try simp only [hl3_1]); (try simp only [hl3_2]); (with_reducible repeat (first | refine qah ?_ _ | refine qaj ?_ | refine qai ?_ _)); exact BK606.out⟩, ⟨by repeat (first | (with_reducible first | exact HB.out | apply qad | apply qaa | apply qac | refine qae ?_ GE605.out | refine qae ?_ GE606.out) | exact HB.out)⟩⟩
   ·rw [if_neg c9] at H
    have c9b0 : decide (x10_1 < (t607.length : Int)) = false := decide_eq_false c9
    (try (have c9b0_0 := c9b0; simp only [hl3_1] at c9b0_0))
    clear c9
    replace H := Option.bind_eq_some_iff.mp H
    obtain ⟨⟨t610, t611⟩, A190, H⟩ := H
    replace H : (some (t610, t611)) = some (r1, r2) := H
    have A19 := Aside0.mk A190
    clear A190
    simp only [Option.some.injEq, Prod.mk.injEq] at H
    obtain ⟨rfl, rfl⟩ := H
    go_wp2_with (first | ((with_reducible refine qao (f := 63) rfl ?_); refine goesL_ (some 35) rfl rfl Tryd.func63 (by kernel_rfl) rfl #[.slice Ao8 x3_1.length co8] rfl mT_ ?_; (with_reducible refine (spec_paOf.calls k1 _ _ x3_1 t610 t611 _ ?side1 ?side2 A19.out).mono ?_); (case side1 => repeat (first | exact (Kd.S_reads' HO_3.out).2.2 | (with_reducible refine Kd.C_alloc ?_ _) | (with_reducible refine Kd.C_drewN ?_ _) | (with_reducible refine Kd.C_drew ?_))); (case side2 => exact (Kd.S_reads' HO_3.out).2.1); rintro e w20 ⟨v612, rfl, ho0, hb⟩; refine ⟨_, rfl, ?_⟩; have n0_ := Aside0.mk (Kd.S_below (uS_ HO_3.out) hb); have n1_ := Aside0.mk (Kd.R_lower ho0 (qal (hB2_ GE605.out GE606.out))); have n2_ := Aside0.mk (qap (g := gb605) (o := .cells #[.int .i64 a0_0, .slice A0_1 l0_1.length c0_1] 30 (0, 0)) (uB_ BK605.out) hb); have n3_ := Aside0.mk (qap (g := gb606) (o := .cells #[.int .i64 0, .slice none 0 0] 30 (0, 0)) (uB_ BK606.out) hb); have n4_ := Aside0.mk (qak (hB2_ GE605.out GE606.out) hb); clear HO_3; clear BK605; clear BK606; clear HB; have HO_3 := n0_; have HO613 := n1_; have BK605 := n2_; have BK606 := n3_; have HB := n4_; clear n0_ n1_ n2_ n3_ n4_; (try clear hb); (try clear hb2); (try clear hk); (try clear hi); (try clear ho0); have hnb21 := NB606_605.out; have hnc21 := NB605_606.out; have hcz22_0 : w20.cell? ⟨gb606, 0, none⟩ = some (.int .i64 0) := (qab BK606.out 0).trans rfl; have hcz22_1 : w20.cell? ⟨gb606, 1, none⟩ = some (.slice none 0 0) := (qab BK606.out 1).trans rfl; have hfz22_0 := qaf BK606.out 0; have hfz22_1 := qaf BK606.out 1; obtain ⟨Ao23, co23, eo23⟩ := Kd.R_slice HO613.out; subst eo23))
    refine bodyPost_ret (results_cell_row rfl _ _ gb606 30 #[.int .i64 t610, .slice Ao23 t611.length co23] (0, 0) _ rfl (by (with_reducible repeat (first | refine qah ?_ _ | refine qaj ?_ | refine qai ?_ _)); refine blk_put (cs := #[.int .i64 t610, .slice none 0 0]) ?_ 1 _ rfl; (with_reducible repeat (first | refine qah ?_ _ | refine qaj ?_ | refine qai ?_ _)); refine blk_put (cs := #[.int .i64 0, .slice none 0 0]) ?_ 0 _ rfl; (with_reducible repeat (first | refine qah ?_ _ | refine qaj ?_ | refine qai ?_ _)); exact BK606.out) Tryd.underlying30 rfl (by kernel_rfl)) rfl ?_
    exact ⟨_, by first | rfl | (simp [errW_none, errW_some] <;> rfl) | (simp [*, errW_none, errW_some] <;> rfl), by (with_reducible repeat (first | apply Kd.qat | apply Kd.qas | apply Kd.R_drew)); exact Kd.R_mono (Kd.R_far (p := ⟨gb606, 1, none⟩) (Kd.R_far (p := ⟨gb606, 0, none⟩) (Kd.R_types HO613.out BK606.out (by decide)) (fun _ hk => hk.2) (.int .i64 t610)) (fun _ hk => hk.2) (.slice Ao23 t611.length co23)) (fun _ hk => trivial), by repeat (first | (with_reducible first | exact HB.out | apply qad | apply qaa | apply qac | refine qae ?_ GE605.out | refine qae ?_ GE606.out) | exact HB.out)⟩

end Go.Proofs.YtedfcbbklhfgcaaDoor.Q
namespace Go.Proofs.YtedfcbbklhfgcaaDoor.Q
open Go.RowKit Go.Proofs.YtedfcbbklhfgcaaDoorW.PrintWords Go.Proofs.YtedfcbbklhfgcaaDoorW.PrintLast Go.Proofs.YtedfcbbklhfgcaaDoorW.PrintMore
attribute [local go_sem] max2_int min2_int max_two min_two max_three min_three max_four min_four   -- for this text's walks alone
set_option linter.unusedVariables false
set_option linter.unusedSimpArgs false

/-! ### spec_TwoTables: function 23 -/
def spec_TwoTables.f (k : Nat) (a0_0 : Int) (l0_1 : List (S56)) : Option (List Int × Bool) := (spec_paGood.f k a0_0 l0_1).bind fun t621 => (if t621 = true then ((spec_paOther.f k a0_0 l0_1).bind fun bt622 => ((spec_taTables.f k bt622.1 bt622.2).bind fun bt626 => (some (bt626.1, bt626.2)))) else (some (([] : List Int), false)))
theorem spec_TwoTables.mono : ∀ a0 a1 k, LeO (spec_TwoTables.f k a0 a1) (spec_TwoTables.f (k + 1) a0 a1) := by
 intro a0 a1 k
 unfold spec_TwoTables.f
 repeat' first
   | (with_reducible exact spec_paGood.mono _ _ _)
   | (with_reducible exact spec_paOther.mono _ _ _)
   | (with_reducible exact spec_taTables.mono _ _ _)
   | (with_reducible exact LeO.refl _)
   | (with_reducible exact LeO.none _)
   | (with_reducible refine LeO.ite ?_ ?_)
   | (with_reducible refine LeO.bind ?_ (fun _ => ?_))
   | exact spec_paGood.mono _ _ _
   | exact spec_paOther.mono _ _ _
   | exact spec_taTables.mono _ _ _
   | exact LeO.none _
   | refine LeO.ite ?_ ?_
   | refine LeO.bind ?_ (fun _ => ?_)
set_option maxHeartbeats 8000000 in
set_option maxRecDepth 100000 in
theorem spec_TwoTables.calls (k : Nat) (a0_0 : Int) (A0_1 : Option Addr) (c0_1 : Nat) (l0_1 : List (S56)) (r1 : List Int) (r2 : Bool) (w : World) (hr0_1 : Kd.C k56 w A0_1 l0_1.length l0_1) (hc0_1 : l0_1.length ≤ c0_1) (h : spec_TwoTables.f k a0_0 l0_1 = some (r1, r2)) :
  Calls Tryd.prog 23 #[.agg #[.int .i64 a0_0, .slice A0_1 l0_1.length c0_1]] w fun e w' => ∃ v0_ : Value, e = .returned (.tuple #[v0_, .bool r2]) ∧ Kd.R (Kd.int .i64) 3 w' w.heap.size (fun _ => True) v0_ r1 ∧ Below w.heap.size w w' := by
 have hu30 := Tryd.underlying30
 have HR0_1 := Aside0.mk hr0_1
 have HC0_1 := Aside0.mk hc0_1
 clear hr0_1 hc0_1
 have HB := Aside0.mk (Below.refl w.heap.size w)
 have H : ((spec_paGood.f k a0_0 l0_1).bind fun t621 => (if t621 = true then ((spec_paOther.f k a0_0 l0_1).bind fun bt622 => ((spec_taTables.f k bt622.1 bt622.2).bind fun bt626 => (some (bt626.1, bt626.2)))) else (some (([] : List Int), false)))) = some (r1, r2) := h
 clear h
 replace H := Option.bind_eq_some_iff.mp H
 obtain ⟨t621, A20, H⟩ := H
 replace H : (if t621 = true then ((spec_paOther.f k a0_0 l0_1).bind fun bt622 => ((spec_taTables.f k bt622.1 bt622.2).bind fun bt626 => (some (bt626.1, bt626.2)))) else (some (([] : List Int), false))) = some (r1, r2) := H
 have A2 := Aside0.mk A20
 clear A20
 by_cases c3 : t621 = true
 ·subst c3
  have H1 : ((spec_paOther.f k a0_0 l0_1).bind fun bt622 => ((spec_taTables.f k bt622.1 bt622.2).bind fun bt626 => (some (bt626.1, bt626.2)))) = some (r1, r2) := by rw [if_pos rfl] at H; exact H
  clear H
  have H := H1
  clear H1
  replace H := Option.bind_eq_some_iff.mp H
  obtain ⟨⟨t622, t623⟩, A40, H⟩ := H
  replace H : ((spec_taTables.f k t622 t623).bind fun bt626 => (some (bt626.1, bt626.2))) = some (r1, r2) := H
  have A4 := Aside0.mk A40
  clear A40
  replace H := Option.bind_eq_some_iff.mp H
  obtain ⟨⟨t626, t629⟩, A50, H⟩ := H
  replace H : (some (t626, t629)) = some (r1, r2) := H
  have A5 := Aside0.mk A50
  clear A50
  simp only [Option.some.injEq, Prod.mk.injEq] at H
  obtain ⟨rfl, rfl⟩ := H
  go_enter Tryd.func23, Tryd.ntmps23
  go_wp2_with (first | ((with_reducible refine gate_dst (N := 1) rfl ?_); refine box_event ?hg (N := 1) ?hd (cs := #[.int .i64 a0_0, .slice A0_1 l0_1.length c0_1]) (t := 30) ?hr ?_; (case hd => rfl); (case hg => rfl); (case hr => first | (go_simp; done) | (go_simp; rfl)); intro gb620 hg w6 hbox hb; have n0_ := Aside0.mk (qak hB_ hb); have n1_ := Aside0.mk (hbox); have n2_ := Aside0.mk ((by rw [hg]; exact (qal hB_) : w.heap.size ≤ gb620)); have n3_ := n2_; clear HB; have HB := n0_; have BK620 := n1_; have GW620 := n2_; have GE620 := n3_; clear n0_ n1_ n2_ n3_; clear hb hbox hg; have hcz7_0 : w6.cell? ⟨gb620, 0, none⟩ = some (.int .i64 a0_0) := (qab BK620.out 0).trans rfl; have hcz7_1 : w6.cell? ⟨gb620, 1, none⟩ = some (.slice A0_1 l0_1.length c0_1) := (qab BK620.out 1).trans rfl; have hfz7_0 := qaf BK620.out 0; have hfz7_1 := qaf BK620.out 1) | ((with_reducible refine qao (f := 26) rfl ?_); refine goesL_ (some 5) rfl rfl Tryd.func26 (by kernel_rfl) rfl #[.agg #[.int .i64 a0_0, .slice A0_1 l0_1.length c0_1]] rfl mT_ ?_; (with_reducible refine (spec_paGood.calls k a0_0 _ _ l0_1 true _ ?side1 ?side2 A2.out).mono ?_); (case side1 => repeat (first | exact (Kd.C_below HR0_1.out HB.out) | (with_reducible refine Kd.C_alloc ?_ _) | (with_reducible refine Kd.C_drewN ?_ _) | (with_reducible refine Kd.C_drew ?_))); (case side2 => exact HC0_1.out); rintro e w8 ⟨rfl, hb⟩; refine ⟨_, rfl, ?_⟩; have n0_ := Aside0.mk (qap (g := gb620) (o := .cells #[.int .i64 a0_0, .slice A0_1 l0_1.length c0_1] 30 (0, 0)) (uB_ BK620.out) hb); have n1_ := Aside0.mk (qak (hB1_ GE620.out) hb); clear BK620; clear HB; have BK620 := n0_; have HB := n1_; clear n0_ n1_; (try clear hb); (try clear hb2); (try clear hk); (try clear hi); have hcz9_0 : w8.cell? ⟨gb620, 0, none⟩ = some (.int .i64 a0_0) := (qab BK620.out 0).trans rfl; have hcz9_1 : w8.cell? ⟨gb620, 1, none⟩ = some (.slice A0_1 l0_1.length c0_1) := (qab BK620.out 1).trans rfl; have hfz9_0 := qaf BK620.out 0; have hfz9_1 := qaf BK620.out 1) | ((with_reducible refine qao (f := 46) rfl ?_); refine goesL_ (some 8) rfl rfl Tryd.func46 (by kernel_rfl) rfl #[.agg #[.int .i64 a0_0, .slice A0_1 l0_1.length c0_1]] rfl mT_ ?_; (with_reducible refine (spec_paOther.calls k a0_0 _ _ l0_1 t622 t623 _ ?side1 ?side2 A4.out).mono ?_); (case side1 => repeat (first | exact (Kd.C_below HR0_1.out HB.out) | (with_reducible refine Kd.C_alloc ?_ _) | (with_reducible refine Kd.C_drewN ?_ _) | (with_reducible refine Kd.C_drew ?_))); (case side2 => exact HC0_1.out); rintro e w10 ⟨v624, rfl, ho0, hb⟩; refine ⟨_, rfl, ?_⟩; have n0_ := Aside0.mk (Kd.R_lower ho0 (qal (hB1_ GE620.out))); have n1_ := Aside0.mk (qap (g := gb620) (o := .cells #[.int .i64 a0_0, .slice A0_1 l0_1.length c0_1] 30 (0, 0)) (uB_ BK620.out) hb); have n2_ := Aside0.mk (qak (hB1_ GE620.out) hb); clear BK620; clear HB; have HO625 := n0_; have BK620 := n1_; have HB := n2_; clear n0_ n1_ n2_; (try clear hb); (try clear hb2); (try clear hk); (try clear hi); (try clear ho0); obtain ⟨Ao11, co11, eo11⟩ := Kd.R_slice HO625.out; subst eo11) | ((with_reducible refine qao (f := 43) rfl ?_); refine goesL_ (some 9) rfl rfl Tryd.func43 (by kernel_rfl) rfl #[.agg #[.int .i64 t622, .slice Ao11 t623.length co11]] rfl mT_ ?_; (with_reducible refine (spec_taTables.calls k t622 _ _ t623 t626 t629 _ ?side1 ?side2 A5.out).mono ?_); (case side1 => repeat (first | exact (Kd.R_reads' HO625.out).2.2 | (with_reducible refine Kd.C_alloc ?_ _) | (with_reducible refine Kd.C_drewN ?_ _) | (with_reducible refine Kd.C_drew ?_))); (case side2 => exact (Kd.R_reads' HO625.out).2.1); rintro e w12 ⟨v627, rfl, ho0, hb⟩; refine ⟨_, rfl, ?_⟩; have n0_ := Aside0.mk (Kd.R_below (uR_ HO625.out) hb); have n1_ := Aside0.mk (Kd.R_lower ho0 (qal (hB1_ GE620.out))); have n2_ := Aside0.mk (qap (g := gb620) (o := .cells #[.int .i64 a0_0, .slice A0_1 l0_1.length c0_1] 30 (0, 0)) (uB_ BK620.out) hb); have n3_ := Aside0.mk (qak (hB1_ GE620.out) hb); clear HO625; clear BK620; clear HB; have HO625 := n0_; have HO628 := n1_; have BK620 := n2_; have HB := n3_; clear n0_ n1_ n2_ n3_; (try clear hb); (try clear hb2); (try clear hk); (try clear hi); (try clear ho0)))
  go_ret2
  exact ⟨_, by first | rfl | (simp [errW_none, errW_some] <;> rfl) | (simp [*, errW_none, errW_some] <;> rfl), by (with_reducible repeat (first | apply Kd.qat | apply Kd.qas | apply Kd.R_drew)); exact HO628.out, by repeat (first | (with_reducible first | exact HB.out | apply qad | apply qaa | apply qac | refine qae ?_ GE620.out) | exact HB.out)⟩
 ·replace c3 := Bool.eq_false_iff.mpr c3
  subst c3
  have H1 : (some (([] : List Int), false)) = some (r1, r2) := by rw [if_neg (show ¬ (false = true) by decide)] at H; exact H
  clear H
  have H := H1
  clear H1
  simp only [Option.some.injEq, Prod.mk.injEq] at H
  obtain ⟨rfl, rfl⟩ := H
  go_enter Tryd.func23, Tryd.ntmps23
  go_wp2_with (first | ((with_reducible refine gate_dst (N := 1) rfl ?_); refine box_event ?hg (N := 1) ?hd (cs := #[.int .i64 a0_0, .slice A0_1 l0_1.length c0_1]) (t := 30) ?hr ?_; (case hd => rfl); (case hg => rfl); (case hr => first | (go_simp; done) | (go_simp; rfl)); intro gb620 hg w13 hbox hb; have n0_ := Aside0.mk (qak hB_ hb); have n1_ := Aside0.mk (hbox); have n2_ := Aside0.mk ((by rw [hg]; exact (qal hB_) : w.heap.size ≤ gb620)); have n3_ := n2_; clear HB; have HB := n0_; have BK620 := n1_; have GW620 := n2_; have GE620 := n3_; clear n0_ n1_ n2_ n3_; clear hb hbox hg; have hcz14_0 : w13.cell? ⟨gb620, 0, none⟩ = some (.int .i64 a0_0) := (qab BK620.out 0).trans rfl; have hcz14_1 : w13.cell? ⟨gb620, 1, none⟩ = some (.slice A0_1 l0_1.length c0_1) := (qab BK620.out 1).trans rfl; have hfz14_0 := qaf BK620.out 0; have hfz14_1 := qaf BK620.out 1) | ((with_reducible refine qao (f := 26) rfl ?_); refine goesL_ (some 5) rfl rfl Tryd.func26 (by kernel_rfl) rfl #[.agg #[.int .i64 a0_0, .slice A0_1 l0_1.length c0_1]] rfl mT_ ?_; (with_reducible refine (spec_paGood.calls k a0_0 _ _ l0_1 false _ ?side1 ?side2 A2.out).mono ?_); (case side1 => repeat (first | exact (Kd.C_below HR0_1.out HB.out) | (with_reducible refine Kd.C_alloc ?_ _) | (with_reducible refine Kd.C_drewN ?_ _) | (with_reducible refine Kd.C_drew ?_))); (case side2 => exact HC0_1.out); rintro e w15 ⟨rfl, hb⟩; refine ⟨_, rfl, ?_⟩; have n0_ := Aside0.mk (qap (g := gb620) (o := .cells #[.int .i64 a0_0, .slice A0_1 l0_1.length c0_1] 30 (0, 0)) (uB_ BK620.out) hb); have n1_ := Aside0.mk (qak (hB1_ GE620.out) hb); clear BK620; clear HB; have BK620 := n0_; have HB := n1_; clear n0_ n1_; (try clear hb); (try clear hb2); (try clear hk); (try clear hi)))
  go_ret2
  exact ⟨_, by first | rfl | (simp [errW_none, errW_some] <;> rfl) | (simp [*, errW_none, errW_some] <;> rfl), by first | exact Kd.R_nil _ _ _ _ _ | exact Kd.N_nil _ _ _ _ _ | exact Kd.V_nil _ _ _ _ _ | exact Kd.Q_nil _ _ _ _ _ | exact Kd.S_nil _ _ _ _ _, by repeat (first | (with_reducible first | exact HB.out | apply qad | apply qaa | apply qac | refine qae ?_ GE620.out) | exact HB.out)⟩

end Go.Proofs.YtedfcbbklhfgcaaDoor.Q
namespace Go.Proofs.YtedfcbbklhfgcaaDoor.Q
open Go.RowKit Go.Proofs.YtedfcbbklhfgcaaDoorW.PrintWords Go.Proofs.YtedfcbbklhfgcaaDoorW.PrintLast Go.Proofs.YtedfcbbklhfgcaaDoorW.PrintMore
attribute [local go_sem] max2_int min2_int max_two min_two max_three min_three max_four min_four   -- for this text's walks alone
set_option linter.unusedVariables false
set_option linter.unusedSimpArgs false

/-! ### laws_FnExactTwoTables: function 7 -/
mutual
def laws_FnExactTwoTables.j0 : Nat → List Int → Bool → List Int → Bool → Bool → Int → List (S70) → Int → List (S56) → Option (Bool)
 | 0, _, _, _, _, _, _, _, _, _ => none
 | k + 1, x4, x5, x7, x8, x40, x648000, x648001, x662000, x662001 => if x40 = true then (some false) else ((laws_toParty.f k x648000 x648001).bind fun bt667 => ((laws_eqParty.f k x662000 x662001 bt667.1 bt667.2).bind fun t671 => (if t671 = true then ((laws_markParty.f k x662000 x662001 1).bind fun bt672 => (if bt672.1 < 0 then (laws_FnExactTwoTables.j1 k x4 x5 x7 true x648000 x648001) else ((laws_eqIntS.f k x7 x4).bind fun t674 => (if t674 = true then (laws_FnExactTwoTables.j1 k x4 x5 x7 (x8 != x5) x648000 x648001) else (laws_FnExactTwoTables.j1 k x4 x5 x7 true x648000 x648001))))) else (some false))))
def laws_FnExactTwoTables.j1 : Nat → List Int → Bool → List Int → Bool → Int → List (S70) → Option (Bool)
 | 0, _, _, _, _, _, _ => none
 | k + 1, x4, x5, x7, x61, x648000, x648001 => if x61 = true then (some false) else ((laws_markIntS.f k x7 1).bind fun bt675 => ((laws_heldIntS.f k bt675.2 1).bind fun t677 => (if t677 < 0 then (some false) else (if t677 = bt675.1 then ((laws_toParty.f k x648000 x648001).bind fun bt678 => ((impl_TwoTables.f k bt678.1 bt678.2).bind fun bt682 => ((laws_eqIntS.f k bt682.1 x4).bind fun t686 => (if t686 = true then (laws_FnExactTwoTables.j2 k bt675.2 bt675.1 (bt682.2 != x5)) else (laws_FnExactTwoTables.j2 k bt675.2 bt675.1 true))))) else (some false)))))
def laws_FnExactTwoTables.j2 : Nat → List Int → Int → Bool → Option (Bool)
 | 0, _, _, _ => none
 | k + 1, x7, x10, x87 => if x87 = true then (some false) else ((laws_heldIntS.f k x7 1).bind fun t687 => (if t687 < 0 then (some false) else (if t687 = x10 then (some true) else (some false))))
end
def laws_FnExactTwoTables.f (k : Nat) (a0_0 : Int) (l0_1 : List (S70)) : Option (Bool) := (laws_szParty.f a0_0 l0_1 1048576).bind fun t648 => (if t648 < 0 then (some true) else ((laws_toParty.f k a0_0 l0_1).bind fun bt649 => ((spec_TwoTables.f k bt649.1 bt649.2).bind fun bt653 => ((laws_toParty.f k a0_0 l0_1).bind fun bt657 => ((impl_TwoTables.f k bt657.1 bt657.2).bind fun bt662 => ((laws_eqIntS.f k bt662.1 bt653.1).bind fun t666 => (if t666 = true then (laws_FnExactTwoTables.j0 k bt653.1 bt653.2 bt662.1 bt662.2 (bt662.2 != bt653.2) a0_0 l0_1 bt657.1 bt657.2) else (laws_FnExactTwoTables.j0 k bt653.1 bt653.2 bt662.1 bt662.2 true a0_0 l0_1 bt657.1 bt657.2))))))))
theorem laws_FnExactTwoTables.mono_l : ∀ k, (∀ y0 y1 y2 y3 y4 y5 y6 y7 y8, LeO (laws_FnExactTwoTables.j0 k y0 y1 y2 y3 y4 y5 y6 y7 y8) (laws_FnExactTwoTables.j0 (k + 1) y0 y1 y2 y3 y4 y5 y6 y7 y8)) ∧ (∀ y0 y1 y2 y3 y4 y5, LeO (laws_FnExactTwoTables.j1 k y0 y1 y2 y3 y4 y5) (laws_FnExactTwoTables.j1 (k + 1) y0 y1 y2 y3 y4 y5)) ∧ (∀ y0 y1 y2, LeO (laws_FnExactTwoTables.j2 k y0 y1 y2) (laws_FnExactTwoTables.j2 (k + 1) y0 y1 y2))
 | 0 => ⟨fun _ _ _ _ _ _ _ _ _ r h => by simp [laws_FnExactTwoTables.j0] at h, fun _ _ _ _ _ _ r h => by simp [laws_FnExactTwoTables.j1] at h, fun _ _ _ r h => by simp [laws_FnExactTwoTables.j2] at h⟩
 | k + 1 => by
  obtain ⟨ih0, ih1, ih2⟩ := laws_FnExactTwoTables.mono_l k
  refine ⟨?_, ?_, ?_⟩
  ·intro y0 y1 y2 y3 y4 y5 y6 y7 y8
   unfold laws_FnExactTwoTables.j0
   repeat' first
   | (with_reducible exact ih0 _ _ _ _ _ _ _ _ _)
   | (with_reducible exact ih1 _ _ _ _ _ _)
   | (with_reducible exact ih2 _ _ _)
   | (with_reducible exact impl_TwoTables.mono _ _ _)
   | (with_reducible exact laws_eqIntS.mono _ _ _)
   | (with_reducible exact laws_eqParty.mono _ _ _ _ _)
   | (with_reducible exact laws_heldIntS.mono _ _ _)
   | (with_reducible exact laws_markIntS.mono _ _ _)
   | (with_reducible exact laws_markParty.mono _ _ _ _)
   | (with_reducible exact laws_toParty.mono _ _ _)
   | (with_reducible exact spec_TwoTables.mono _ _ _)
   | (with_reducible exact LeO.refl _)
   | (with_reducible exact LeO.none _)
   | (with_reducible refine LeO.ite ?_ ?_)
   | (with_reducible refine LeO.bind ?_ (fun _ => ?_))
   | exact ih0 _ _ _ _ _ _ _ _ _
   | exact ih1 _ _ _ _ _ _
   | exact ih2 _ _ _
   | exact impl_TwoTables.mono _ _ _
   | exact laws_eqIntS.mono _ _ _
   | exact laws_eqParty.mono _ _ _ _ _
   | exact laws_heldIntS.mono _ _ _
   | exact laws_markIntS.mono _ _ _
   | exact laws_markParty.mono _ _ _ _
   | exact laws_toParty.mono _ _ _
   | exact spec_TwoTables.mono _ _ _
   | exact LeO.none _
   | refine LeO.ite ?_ ?_
   | refine LeO.bind ?_ (fun _ => ?_)
  ·intro y0 y1 y2 y3 y4 y5
   unfold laws_FnExactTwoTables.j1
   repeat' first
   | (with_reducible exact ih0 _ _ _ _ _ _ _ _ _)
   | (with_reducible exact ih1 _ _ _ _ _ _)
   | (with_reducible exact ih2 _ _ _)
   | (with_reducible exact impl_TwoTables.mono _ _ _)
   | (with_reducible exact laws_eqIntS.mono _ _ _)
   | (with_reducible exact laws_eqParty.mono _ _ _ _ _)
   | (with_reducible exact laws_heldIntS.mono _ _ _)
   | (with_reducible exact laws_markIntS.mono _ _ _)
   | (with_reducible exact laws_markParty.mono _ _ _ _)
   | (with_reducible exact laws_toParty.mono _ _ _)
   | (with_reducible exact spec_TwoTables.mono _ _ _)
   | (with_reducible exact LeO.refl _)
   | (with_reducible exact LeO.none _)
   | (with_reducible refine LeO.ite ?_ ?_)
   | (with_reducible refine LeO.bind ?_ (fun _ => ?_))
   | exact ih0 _ _ _ _ _ _ _ _ _
   | exact ih1 _ _ _ _ _ _
   | exact ih2 _ _ _
   | exact impl_TwoTables.mono _ _ _
   | exact laws_eqIntS.mono _ _ _
   | exact laws_eqParty.mono _ _ _ _ _
   | exact laws_heldIntS.mono _ _ _
   | exact laws_markIntS.mono _ _ _
   | exact laws_markParty.mono _ _ _ _
   | exact laws_toParty.mono _ _ _
   | exact spec_TwoTables.mono _ _ _
   | exact LeO.none _
   | refine LeO.ite ?_ ?_
   | refine LeO.bind ?_ (fun _ => ?_)
  ·intro y0 y1 y2
   unfold laws_FnExactTwoTables.j2
   repeat' first
   | (with_reducible exact ih0 _ _ _ _ _ _ _ _ _)
   | (with_reducible exact ih1 _ _ _ _ _ _)
   | (with_reducible exact ih2 _ _ _)
   | (with_reducible exact impl_TwoTables.mono _ _ _)
   | (with_reducible exact laws_eqIntS.mono _ _ _)
   | (with_reducible exact laws_eqParty.mono _ _ _ _ _)
   | (with_reducible exact laws_heldIntS.mono _ _ _)
   | (with_reducible exact laws_markIntS.mono _ _ _)
   | (with_reducible exact laws_markParty.mono _ _ _ _)
   | (with_reducible exact laws_toParty.mono _ _ _)
   | (with_reducible exact spec_TwoTables.mono _ _ _)
   | (with_reducible exact LeO.refl _)
   | (with_reducible exact LeO.none _)
   | (with_reducible refine LeO.ite ?_ ?_)
   | (with_reducible refine LeO.bind ?_ (fun _ => ?_))
   | exact ih0 _ _ _ _ _ _ _ _ _
   | exact ih1 _ _ _ _ _ _
   | exact ih2 _ _ _
   | exact impl_TwoTables.mono _ _ _
   | exact laws_eqIntS.mono _ _ _
   | exact laws_eqParty.mono _ _ _ _ _
   | exact laws_heldIntS.mono _ _ _
   | exact laws_markIntS.mono _ _ _
   | exact laws_markParty.mono _ _ _ _
   | exact laws_toParty.mono _ _ _
   | exact spec_TwoTables.mono _ _ _
   | exact LeO.none _
   | refine LeO.ite ?_ ?_
   | refine LeO.bind ?_ (fun _ => ?_)
theorem laws_FnExactTwoTables.mono : ∀ a0 a1 k, LeO (laws_FnExactTwoTables.f k a0 a1) (laws_FnExactTwoTables.f (k + 1) a0 a1) := by
 intro a0 a1 k
 obtain ⟨ih0, ih1, ih2⟩ := laws_FnExactTwoTables.mono_l k
 unfold laws_FnExactTwoTables.f
 repeat' first
   | (with_reducible exact ih0 _ _ _ _ _ _ _ _ _)
   | (with_reducible exact ih1 _ _ _ _ _ _)
   | (with_reducible exact ih2 _ _ _)
   | (with_reducible exact impl_TwoTables.mono _ _ _)
   | (with_reducible exact laws_eqIntS.mono _ _ _)
   | (with_reducible exact laws_eqParty.mono _ _ _ _ _)
   | (with_reducible exact laws_heldIntS.mono _ _ _)
   | (with_reducible exact laws_markIntS.mono _ _ _)
   | (with_reducible exact laws_markParty.mono _ _ _ _)
   | (with_reducible exact laws_toParty.mono _ _ _)
   | (with_reducible exact spec_TwoTables.mono _ _ _)
   | (with_reducible exact LeO.refl _)
   | (with_reducible exact LeO.none _)
   | (with_reducible refine LeO.ite ?_ ?_)
   | (with_reducible refine LeO.bind ?_ (fun _ => ?_))
   | exact ih0 _ _ _ _ _ _ _ _ _
   | exact ih1 _ _ _ _ _ _
   | exact ih2 _ _ _
   | exact impl_TwoTables.mono _ _ _
   | exact laws_eqIntS.mono _ _ _
   | exact laws_eqParty.mono _ _ _ _ _
   | exact laws_heldIntS.mono _ _ _
   | exact laws_markIntS.mono _ _ _
   | exact laws_markParty.mono _ _ _ _
   | exact laws_toParty.mono _ _ _
   | exact spec_TwoTables.mono _ _ _
   | exact LeO.none _
   | refine LeO.ite ?_ ?_
   | refine LeO.bind ?_ (fun _ => ?_)
set_option maxHeartbeats 8000000 in
set_option maxRecDepth 100000 in
theorem laws_FnExactTwoTables.calls (k : Nat) (a0_0 : Int) (A0_1 : Option Addr) (c0_1 : Nat) (l0_1 : List (S70)) (r : Bool) (w : World) (hG : Tab w) (hr0_1 : Kd.C k70 w A0_1 l0_1.length l0_1) (hc0_1 : l0_1.length ≤ c0_1) (h : laws_FnExactTwoTables.f k a0_0 l0_1 = some r) :
  Calls Tryd.prog 7 #[.agg #[.int .i64 a0_0, .slice A0_1 l0_1.length c0_1]] w fun e w' => e = .returned (.bool r) ∧ Below w.heap.size w w' := by
 have HG := Aside0.mk hG
 clear hG
 have hu24 := Tryd.underlying24
 have hu30 := Tryd.underlying30
 have HR0_1 := Aside0.mk hr0_1
 have HC0_1 := Aside0.mk hc0_1
 clear hr0_1 hc0_1
 have HB := Aside0.mk (Below.refl w.heap.size w)
 have H : ((laws_szParty.f a0_0 l0_1 1048576).bind fun t648 => (if t648 < 0 then (some true) else ((laws_toParty.f k a0_0 l0_1).bind fun bt649 => ((spec_TwoTables.f k bt649.1 bt649.2).bind fun bt653 => ((laws_toParty.f k a0_0 l0_1).bind fun bt657 => ((impl_TwoTables.f k bt657.1 bt657.2).bind fun bt662 => ((laws_eqIntS.f k bt662.1 bt653.1).bind fun t666 => (if t666 = true then (laws_FnExactTwoTables.j0 k bt653.1 bt653.2 bt662.1 bt662.2 (bt662.2 != bt653.2) a0_0 l0_1 bt657.1 bt657.2) else (laws_FnExactTwoTables.j0 k bt653.1 bt653.2 bt662.1 bt662.2 true a0_0 l0_1 bt657.1 bt657.2))))))))) = some r := h
 clear h
 replace H := Option.bind_eq_some_iff.mp H
 obtain ⟨t648, A20, H⟩ := H
 replace H : (if t648 < 0 then (some true) else ((laws_toParty.f k a0_0 l0_1).bind fun bt649 => ((spec_TwoTables.f k bt649.1 bt649.2).bind fun bt653 => ((laws_toParty.f k a0_0 l0_1).bind fun bt657 => ((impl_TwoTables.f k bt657.1 bt657.2).bind fun bt662 => ((laws_eqIntS.f k bt662.1 bt653.1).bind fun t666 => (if t666 = true then (laws_FnExactTwoTables.j0 k bt653.1 bt653.2 bt662.1 bt662.2 (bt662.2 != bt653.2) a0_0 l0_1 bt657.1 bt657.2) else (laws_FnExactTwoTables.j0 k bt653.1 bt653.2 bt662.1 bt662.2 true a0_0 l0_1 bt657.1 bt657.2)))))))) = some r := H
 have A2 := Aside0.mk A20
 clear A20
 by_cases c3 : t648 < 0
 ·rw [if_pos c3] at H
  have c3b0 : decide (t648 < 0) = true := decide_eq_true c3
  clear c3
  obtain rfl := Option.some.inj H
  go_enter Tryd.func7, Tryd.ntmps7
  go_wp2_with (first | ((with_reducible refine gate_dst (N := 1) rfl ?_); refine box_event ?hg (N := 1) ?hd (cs := #[.int .i64 a0_0, .slice A0_1 l0_1.length c0_1]) (t := 24) ?hr ?_; (case hd => rfl); (case hg => rfl); (case hr => first | (go_simp; done) | (go_simp; rfl)); intro gb647 hg w4 hbox hb; have n0_ := Aside0.mk (qak hB_ hb); have n1_ := Aside0.mk (hbox); have n2_ := Aside0.mk ((by rw [hg]; exact (qal hB_) : w.heap.size ≤ gb647)); have n3_ := n2_; clear HB; have HB := n0_; have BK647 := n1_; have GW647 := n2_; have GE647 := n3_; clear n0_ n1_ n2_ n3_; clear hb hbox hg; have hcz5_0 : w4.cell? ⟨gb647, 0, none⟩ = some (.int .i64 a0_0) := (qab BK647.out 0).trans rfl; have hcz5_1 : w4.cell? ⟨gb647, 1, none⟩ = some (.slice A0_1 l0_1.length c0_1) := (qab BK647.out 1).trans rfl; have hfz5_0 := qaf BK647.out 0; have hfz5_1 := qaf BK647.out 1) | ((with_reducible refine qao (f := 8) rfl ?_); refine goesL_ (some 16) rfl rfl Tryd.func8 (by kernel_rfl) rfl #[.agg #[.int .i64 a0_0, .slice A0_1 l0_1.length c0_1], .int .i64 1048576] rfl mT_ ?_; (with_reducible refine (laws_szParty.calls a0_0 _ _ l0_1 1048576 t648 _ ?side1 ?side2 A2.out).mono ?_); (case side1 => repeat (first | exact (Kd.C_below HR0_1.out HB.out) | (with_reducible refine Kd.C_alloc ?_ _) | (with_reducible refine Kd.C_drewN ?_ _) | (with_reducible refine Kd.C_drew ?_))); (case side2 => exact HC0_1.out); rintro e w6 ⟨rfl, hb⟩; refine ⟨_, rfl, ?_⟩; have n0_ := Aside0.mk (qap (g := gb647) (o := .cells #[.int .i64 a0_0, .slice A0_1 l0_1.length c0_1] 24 (0, 0)) (uB_ BK647.out) hb); have n1_ := Aside0.mk (qak (hB1_ GE647.out) hb); clear BK647; clear HB; have BK647 := n0_; have HB := n1_; clear n0_ n1_; (try clear hb); (try clear hb2); (try clear hk); (try clear hi)))
  go_ret
  exact ⟨by first | rfl | (simp [errW_none, errW_some] <;> rfl) | (simp [*, errW_none, errW_some] <;> rfl), by repeat (first | (with_reducible first | exact HB.out | apply qad | apply qaa | apply qac | refine qae ?_ GE647.out) | exact HB.out)⟩
 ·rw [if_neg c3] at H
  have c3b0 : decide (t648 < 0) = false := decide_eq_false c3
  clear c3
  replace H := Option.bind_eq_some_iff.mp H
  obtain ⟨⟨t649, t650⟩, A70, H⟩ := H
  replace H : ((spec_TwoTables.f k t649 t650).bind fun bt653 => ((laws_toParty.f k a0_0 l0_1).bind fun bt657 => ((impl_TwoTables.f k bt657.1 bt657.2).bind fun bt662 => ((laws_eqIntS.f k bt662.1 bt653.1).bind fun t666 => (if t666 = true then (laws_FnExactTwoTables.j0 k bt653.1 bt653.2 bt662.1 bt662.2 (bt662.2 != bt653.2) a0_0 l0_1 bt657.1 bt657.2) else (laws_FnExactTwoTables.j0 k bt653.1 bt653.2 bt662.1 bt662.2 true a0_0 l0_1 bt657.1 bt657.2)))))) = some r := H
  have A7 := Aside0.mk A70
  clear A70
  replace H := Option.bind_eq_some_iff.mp H
  obtain ⟨⟨t653, t656⟩, A80, H⟩ := H
  replace H : ((laws_toParty.f k a0_0 l0_1).bind fun bt657 => ((impl_TwoTables.f k bt657.1 bt657.2).bind fun bt662 => ((laws_eqIntS.f k bt662.1 t653).bind fun t666 => (if t666 = true then (laws_FnExactTwoTables.j0 k t653 t656 bt662.1 bt662.2 (bt662.2 != t656) a0_0 l0_1 bt657.1 bt657.2) else (laws_FnExactTwoTables.j0 k t653 t656 bt662.1 bt662.2 true a0_0 l0_1 bt657.1 bt657.2))))) = some r := H
  have A8 := Aside0.mk A80
  clear A80
  replace H := Option.bind_eq_some_iff.mp H
  obtain ⟨⟨t657, t658⟩, A90, H⟩ := H
  replace H : ((impl_TwoTables.f k t657 t658).bind fun bt662 => ((laws_eqIntS.f k bt662.1 t653).bind fun t666 => (if t666 = true then (laws_FnExactTwoTables.j0 k t653 t656 bt662.1 bt662.2 (bt662.2 != t656) a0_0 l0_1 t657 t658) else (laws_FnExactTwoTables.j0 k t653 t656 bt662.1 bt662.2 true a0_0 l0_1 t657 t658)))) = some r := H
  have A9 := Aside0.mk A90
  clear A90
  replace H := Option.bind_eq_some_iff.mp H
  obtain ⟨⟨t662, t665⟩, A100, H⟩ := H
  replace H : ((laws_eqIntS.f k t662 t653).bind fun t666 => (if t666 = true then (laws_FnExactTwoTables.j0 k t653 t656 t662 t665 (t665 != t656) a0_0 l0_1 t657 t658) else (laws_FnExactTwoTables.j0 k t653 t656 t662 t665 true a0_0 l0_1 t657 t658))) = some r := H
  have A10 := Aside0.mk A100
  clear A100
  have HC11 := Aside0.mk H
  clear H
  go_enter Tryd.func7, Tryd.ntmps7
  go_upto_region 8 with (first | ((with_reducible refine gate_dst (N := 1) rfl ?_); refine box_event ?hg (N := 1) ?hd (cs := #[.int .i64 a0_0, .slice A0_1 l0_1.length c0_1]) (t := 24) ?hr ?_; (case hd => rfl); (case hg => rfl); (case hr => first | (go_simp; done) | (go_simp; rfl)); intro gb647 hg w12 hbox hb; have n0_ := Aside0.mk (qak hB_ hb); have n1_ := Aside0.mk (hbox); have n2_ := Aside0.mk ((by rw [hg]; exact (qal hB_) : w.heap.size ≤ gb647)); have n3_ := n2_; clear HB; have HB := n0_; have BK647 := n1_; have GW647 := n2_; have GE647 := n3_; clear n0_ n1_ n2_ n3_; clear hb hbox hg; have hcz13_0 : w12.cell? ⟨gb647, 0, none⟩ = some (.int .i64 a0_0) := (qab BK647.out 0).trans rfl; have hcz13_1 : w12.cell? ⟨gb647, 1, none⟩ = some (.slice A0_1 l0_1.length c0_1) := (qab BK647.out 1).trans rfl; have hfz13_0 := qaf BK647.out 0; have hfz13_1 := qaf BK647.out 1) | ((with_reducible refine qao (f := 8) rfl ?_); refine goesL_ (some 16) rfl rfl Tryd.func8 (by kernel_rfl) rfl #[.agg #[.int .i64 a0_0, .slice A0_1 l0_1.length c0_1], .int .i64 1048576] rfl mT_ ?_; (with_reducible refine (laws_szParty.calls a0_0 _ _ l0_1 1048576 t648 _ ?side1 ?side2 A2.out).mono ?_); (case side1 => repeat (first | exact (Kd.C_below HR0_1.out HB.out) | (with_reducible refine Kd.C_alloc ?_ _) | (with_reducible refine Kd.C_drewN ?_ _) | (with_reducible refine Kd.C_drew ?_))); (case side2 => exact HC0_1.out); rintro e w14 ⟨rfl, hb⟩; refine ⟨_, rfl, ?_⟩; have n0_ := Aside0.mk (qap (g := gb647) (o := .cells #[.int .i64 a0_0, .slice A0_1 l0_1.length c0_1] 24 (0, 0)) (uB_ BK647.out) hb); have n1_ := Aside0.mk (qak (hB1_ GE647.out) hb); clear BK647; clear HB; have BK647 := n0_; have HB := n1_; clear n0_ n1_; (try clear hb); (try clear hb2); (try clear hk); (try clear hi); have hcz15_0 : w14.cell? ⟨gb647, 0, none⟩ = some (.int .i64 a0_0) := (qab BK647.out 0).trans rfl; have hcz15_1 : w14.cell? ⟨gb647, 1, none⟩ = some (.slice A0_1 l0_1.length c0_1) := (qab BK647.out 1).trans rfl; have hfz15_0 := qaf BK647.out 0; have hfz15_1 := qaf BK647.out 1) | ((with_reducible refine qao (f := 10) rfl ?_); refine goesL_ (some 21) rfl rfl Tryd.func10 (by kernel_rfl) rfl #[.agg #[.int .i64 a0_0, .slice A0_1 l0_1.length c0_1]] rfl mT_ ?_; (with_reducible refine (laws_toParty.calls k a0_0 _ _ l0_1 t649 t650 _ ?side1 ?side2 A7.out).mono ?_); (case side1 => repeat (first | exact (Kd.C_below HR0_1.out HB.out) | (with_reducible refine Kd.C_alloc ?_ _) | (with_reducible refine Kd.C_drewN ?_ _) | (with_reducible refine Kd.C_drew ?_))); (case side2 => exact HC0_1.out); rintro e w16 ⟨v651, rfl, ho0, hb⟩; refine ⟨_, rfl, ?_⟩; have n0_ := Aside0.mk (Kd.R_lower ho0 (qal (hB1_ GE647.out))); have n1_ := Aside0.mk (qap (g := gb647) (o := .cells #[.int .i64 a0_0, .slice A0_1 l0_1.length c0_1] 24 (0, 0)) (uB_ BK647.out) hb); have n2_ := Aside0.mk (qak (hB1_ GE647.out) hb); clear BK647; clear HB; have HO652 := n0_; have BK647 := n1_; have HB := n2_; clear n0_ n1_ n2_; (try clear hb); (try clear hb2); (try clear hk); (try clear hi); (try clear ho0); obtain ⟨Ao17, co17, eo17⟩ := Kd.R_slice HO652.out; subst eo17) | ((with_reducible refine qao (f := 23) rfl ?_); refine goesL_ (some 22) rfl rfl Tryd.func23 (by kernel_rfl) rfl #[.agg #[.int .i64 t649, .slice Ao17 t650.length co17]] rfl mT_ ?_; (with_reducible refine (spec_TwoTables.calls k t649 _ _ t650 t653 t656 _ ?side1 ?side2 A8.out).mono ?_); (case side1 => repeat (first | exact (Kd.R_reads' HO652.out).2.2 | (with_reducible refine Kd.C_alloc ?_ _) | (with_reducible refine Kd.C_drewN ?_ _) | (with_reducible refine Kd.C_drew ?_))); (case side2 => exact (Kd.R_reads' HO652.out).2.1); rintro e w18 ⟨v654, rfl, ho0, hb⟩; refine ⟨_, rfl, ?_⟩; have n0_ := Aside0.mk (Kd.R_below (uR_ HO652.out) hb); have n1_ := Aside0.mk (Kd.R_lower ho0 (qal (hB1_ GE647.out))); have n2_ := Aside0.mk (qap (g := gb647) (o := .cells #[.int .i64 a0_0, .slice A0_1 l0_1.length c0_1] 24 (0, 0)) (uB_ BK647.out) hb); have n3_ := Aside0.mk (qak (hB1_ GE647.out) hb); clear HO652; clear BK647; clear HB; have HO652 := n0_; have HO655 := n1_; have BK647 := n2_; have HB := n3_; clear n0_ n1_ n2_ n3_; (try clear hb); (try clear hb2); (try clear hk); (try clear hi); (try clear ho0); have hcz19_0 : w18.cell? ⟨gb647, 0, none⟩ = some (.int .i64 a0_0) := (qab BK647.out 0).trans rfl; have hcz19_1 : w18.cell? ⟨gb647, 1, none⟩ = some (.slice A0_1 l0_1.length c0_1) := (qab BK647.out 1).trans rfl; have hfz19_0 := qaf BK647.out 0; have hfz19_1 := qaf BK647.out 1) | ((with_reducible refine qao (f := 10) rfl ?_); refine goesL_ (some 26) rfl rfl Tryd.func10 (by kernel_rfl) rfl #[.agg #[.int .i64 a0_0, .slice A0_1 l0_1.length c0_1]] rfl mT_ ?_; (with_reducible refine (laws_toParty.calls k a0_0 _ _ l0_1 t657 t658 _ ?side1 ?side2 A9.out).mono ?_); (case side1 => repeat (first | exact (Kd.C_below HR0_1.out HB.out) | (with_reducible refine Kd.C_alloc ?_ _) | (with_reducible refine Kd.C_drewN ?_ _) | (with_reducible refine Kd.C_drew ?_))); (case side2 => exact HC0_1.out); rintro e w20 ⟨v659, rfl, ho0, hb⟩; refine ⟨_, rfl, ?_⟩; have n0_ := Aside0.mk (Kd.R_elder' (uR_ HO652.out) (Kd.R_base ho0) hb); have n1_ := Aside0.mk (Kd.R_below (uR_ HO655.out) hb); have n2_ := Aside0.mk (Kd.R_lower (Kd.R_new' ho0 (Kd.R_lt (uR_ HO652.out))) (qal (hB1_ GE647.out))); have n3_ := Aside0.mk (qap (g := gb647) (o := .cells #[.int .i64 a0_0, .slice A0_1 l0_1.length c0_1] 24 (0, 0)) (uB_ BK647.out) hb); have n4_ := Aside0.mk (qak (hB1_ GE647.out) hb); clear HO652; clear HO655; clear BK647; clear HB; have HO652 := n0_; have HO655 := n1_; have HO660 := n2_; have BK647 := n3_; have HB := n4_; clear n0_ n1_ n2_ n3_ n4_; (try clear hb); (try clear hb2); (try clear hk); (try clear hi); (try clear ho0)) | ((with_reducible refine gate_dst (N := 6) rfl ?_); refine box_event ?hg (N := 6) ?hd (cs := #[.int .i64 0, .slice none 0 0]) (t := 30) ?hr ?_; (case hd => rfl); (case hg => rfl); (case hr => first | (go_simp; done) | (go_simp; rfl)); intro gb661 hg w21 hbox hb; have n0_ := Aside0.mk (Kd.R_below (uR_ HO652.out) hb); have n1_ := Aside0.mk (Kd.R_below (uR_ HO655.out) hb); have n2_ := Aside0.mk (Kd.R_below (uR_ HO660.out) hb); have n3_ := Aside0.mk (qap (g := gb647) (o := .cells #[.int .i64 a0_0, .slice A0_1 l0_1.length c0_1] 24 (0, 0)) (uB_ BK647.out) hb); have n4_ := Aside0.mk (qak (hB1_ GE647.out) hb); have n5_ := Aside0.mk (hbox); have n6_ := Aside0.mk ((by rw [hg]; exact (qal (hB1_ GE647.out)) : w.heap.size ≤ gb661)); have n7_ := n6_; have n8_ := Aside0.mk ((by rw [hg]; exact Nat.ne_of_lt (blk_lt (g := gb647) (o := .cells #[.int .i64 a0_0, .slice A0_1 l0_1.length c0_1] 24 (0, 0)) (uB_ BK647.out)) : gb647 ≠ gb661)); have n9_ := Aside0.mk n8_.out.symm; clear HO652; clear HO655; clear HO660; clear BK647; clear HB; have HO652 := n0_; have HO655 := n1_; have HO660 := n2_; have BK647 := n3_; have HB := n4_; have BK661 := n5_; have GW661 := n6_; have GE661 := n7_; have NB647_661 := n8_; have NB661_647 := n9_; clear n0_ n1_ n2_ n3_ n4_ n5_ n6_ n7_ n8_ n9_; clear hb hbox hg; have hnb22 := NB661_647.out; have hnc22 := NB647_661.out; have hcz23_0 : w21.cell? ⟨gb661, 0, none⟩ = some (.int .i64 0) := (qab BK661.out 0).trans rfl; have hcz23_1 : w21.cell? ⟨gb661, 1, none⟩ = some (.slice none 0 0) := (qab BK661.out 1).trans rfl; have hfz23_0 := qaf BK661.out 0; have hfz23_1 := qaf BK661.out 1; obtain ⟨Ao24, co24, eo24⟩ := Kd.R_slice HO660.out; subst eo24) | ((with_reducible refine qao (f := 24) rfl ?_); refine goesL_ (some 29) rfl rfl Tryd.func24 (by kernel_rfl) rfl #[.agg #[.int .i64 t657, .slice Ao24 t658.length co24]] rfl mT_ ?_; (with_reducible refine (impl_TwoTables.calls k t657 _ _ t658 t662 t665 _ ?sideG ?side1 ?side2 A10.out).mono ?_); (case sideG => first | exact HG.out | exact Tab.below HG.out (hB2_ GE647.out GE661.out)); (case side1 => refine (Kd.R_reads' (e := 56) (base := w.heap.size) (ok := fun k_ => (True ∧ some k_ ≠ (.slice Ao17 t650.length co17 : Value).ownBlock)) (n := t658.length) (c := co24) ?_).2.2; exact (by (with_reducible repeat (first | apply Kd.qat | apply Kd.qas | apply Kd.R_drew)); exact (Kd.R_mono (Kd.R_far (p := ⟨gb661, 1, none⟩) (Kd.R_far (p := ⟨gb661, 0, none⟩) (Kd.R_types HO660.out BK661.out (by decide)) (fun _ hk => hk.2) (.int .i64 t657)) (fun _ hk => hk.2) (.slice Ao24 t658.length co24)) (fun _ h_ => h_.1)))); (case side2 => exact (Kd.R_reads' HO660.out).2.1); rintro e w25 ⟨v663, rfl, ho0, hb⟩; refine ⟨_, rfl, ?_⟩; have n0_ := Aside0.mk (Kd.R_below (by (with_reducible repeat (first | apply Kd.qat | apply Kd.qas | apply Kd.R_drew)); exact (Kd.R_mono (Kd.R_far (p := ⟨gb661, 1, none⟩) (Kd.R_far (p := ⟨gb661, 0, none⟩) (Kd.R_types HO652.out BK661.out (by decide)) (fun _ hk => hk.2) (.int .i64 t657)) (fun _ hk => hk.2) (.slice Ao24 t658.length co24)) (fun _ h_ => h_.1))) hb); have n1_ := Aside0.mk (Kd.R_elder' (by (with_reducible repeat (first | apply Kd.qat | apply Kd.qas | apply Kd.R_drew)); exact (Kd.R_mono (Kd.R_far (p := ⟨gb661, 1, none⟩) (Kd.R_far (p := ⟨gb661, 0, none⟩) (Kd.R_types HO655.out BK661.out (by decide)) (fun _ hk => hk.2) (.int .i64 t657)) (fun _ hk => hk.2) (.slice Ao24 t658.length co24)) (fun _ h_ => h_.1))) (Kd.R_base ho0) hb); have n2_ := Aside0.mk (Kd.R_below (by (with_reducible repeat (first | apply Kd.qat | apply Kd.qas | apply Kd.R_drew)); exact (Kd.R_mono (Kd.R_far (p := ⟨gb661, 1, none⟩) (Kd.R_far (p := ⟨gb661, 0, none⟩) (Kd.R_types HO660.out BK661.out (by decide)) (fun _ hk => hk.2) (.int .i64 t657)) (fun _ hk => hk.2) (.slice Ao24 t658.length co24)) (fun _ h_ => h_.1))) hb); have n3_ := Aside0.mk (Kd.R_lower (Kd.R_new' ho0 (Kd.R_lt (by (with_reducible repeat (first | apply Kd.qat | apply Kd.qas | apply Kd.R_drew)); exact (Kd.R_mono (Kd.R_far (p := ⟨gb661, 1, none⟩) (Kd.R_far (p := ⟨gb661, 0, none⟩) (Kd.R_types HO655.out BK661.out (by decide)) (fun _ hk => hk.2) (.int .i64 t657)) (fun _ hk => hk.2) (.slice Ao24 t658.length co24)) (fun _ h_ => h_.1))))) (qal (hB2_ GE647.out GE661.out))); have n4_ := Aside0.mk (qap (g := gb647) (o := .cells #[.int .i64 a0_0, .slice A0_1 l0_1.length c0_1] 24 (0, 0)) (by (with_reducible repeat (first | refine qah ?_ _ | refine qaj ?_ | refine qai ?_ _)); refine blk_far ?_ NB647_661.out _; (with_reducible repeat (first | refine qah ?_ _ | refine qaj ?_ | refine qai ?_ _)); refine blk_far ?_ NB647_661.out _; (with_reducible repeat (first | refine qah ?_ _ | refine qaj ?_ | refine qai ?_ _)); exact BK647.out) hb); have n5_ := Aside0.mk (qap (g := gb661) (o := .cells #[.int .i64 t657, .slice Ao24 t658.length co24] 30 (0, 0)) (by (with_reducible repeat (first | refine qah ?_ _ | refine qaj ?_ | refine qai ?_ _)); refine blk_put (cs := #[.int .i64 t657, .slice none 0 0]) ?_ 1 _ rfl; (with_reducible repeat (first | refine qah ?_ _ | refine qaj ?_ | refine qai ?_ _)); refine blk_put (cs := #[.int .i64 0, .slice none 0 0]) ?_ 0 _ rfl; (with_reducible repeat (first | refine qah ?_ _ | refine qaj ?_ | refine qai ?_ _)); exact BK661.out) hb); have n6_ := Aside0.mk (qak (hB2_ GE647.out GE661.out) hb); clear HO652; clear HO655; clear HO660; clear BK647; clear BK661; clear HB; have HO652 := n0_; have HO655 := n1_; have HO660 := n2_; have HO664 := n3_; have BK647 := n4_; have BK661 := n5_; have HB := n6_; clear n0_ n1_ n2_ n3_ n4_ n5_ n6_; (try clear hb); (try clear hb2); (try clear hk); (try clear hi); (try clear ho0)))
  (try simp only [Act.put, sP_])
  go_cut [40] (fun v40 wc => ∃ (kq : Nat) (x40_10 : Bool), v40 = .bool x40_10 ∧ Aside0 (laws_FnExactTwoTables.j0 kq t653 t656 t662 t665 x40_10 a0_0 l0_1 t657 t658 = some r) ∧ Aside0 (kq ≤ k) ∧ Aside0 (Kd.R (Kd.int .i64) 3 wc w.heap.size (fun k_ => some k_ ≠ (v663 : Value).ownBlock) v654 t653) ∧ Aside0 (Kd.R (Kd.int .i64) 3 wc w.heap.size (fun k_ => some k_ ≠ (v654 : Value).ownBlock) v663 t662) ∧ Aside0 (Kd.R k56 56 wc w.heap.size (fun _ => True) (.slice Ao24 t658.length co24) t658) ∧ Aside0 (wc.heap[gb647]? = some (.cells #[.int .i64 a0_0, (.slice A0_1 l0_1.length c0_1)] 24 (0, 0))) ∧ Aside0 (wc.heap[gb661]? = some (.cells #[.int .i64 t657, (.slice Ao24 t658.length co24)] 30 (0, 0))) ∧ Aside0 (Below w.heap.size w wc))
  case first =>
   have H := HC11.out
   clear HC11
   replace H := Option.bind_eq_some_iff.mp H
   obtain ⟨t666, A260, H⟩ := H
   replace H : (if t666 = true then (laws_FnExactTwoTables.j0 k t653 t656 t662 t665 (t665 != t656) a0_0 l0_1 t657 t658) else (laws_FnExactTwoTables.j0 k t653 t656 t662 t665 true a0_0 l0_1 t657 t658)) = some r := H
   have A26 := Aside0.mk A260
   clear A260
   by_cases c27 : t666 = true
   ·subst c27
    have H1 : (laws_FnExactTwoTables.j0 k t653 t656 t662 t665 (t665 != t656) a0_0 l0_1 t657 t658) = some r := by rw [if_pos rfl] at H; exact H
    clear H
    have H := H1
    clear H1
    have H' := Aside0.mk H
    clear H
    obtain ⟨Ao28, co28, eo28⟩ := Kd.R_slice HO664.out
    subst eo28
    obtain ⟨Ao29, co29, eo29⟩ := Kd.R_slice HO655.out
    subst eo29
    go_wp2_with (first | ((with_reducible refine qao (f := 19) rfl ?_); refine goesL_ (some 34) rfl rfl Tryd.func19 (by kernel_rfl) rfl #[.slice Ao28 t662.length co28, .slice Ao29 t653.length co29] rfl mT_ ?_; (with_reducible refine (laws_eqIntS.calls k _ _ t662 _ _ t653 true _ ?side1 ?side2 ?side3 ?side4 A26.out).mono ?_); (case side1 => repeat (first | exact (Kd.R_reads' HO664.out).2.2 | (with_reducible refine Kd.C_alloc ?_ _) | (with_reducible refine Kd.C_drewN ?_ _) | (with_reducible refine Kd.C_drew ?_))); (case side2 => exact (Kd.R_reads' HO664.out).2.1); (case side3 => repeat (first | exact (Kd.R_reads' HO655.out).2.2 | (with_reducible refine Kd.C_alloc ?_ _) | (with_reducible refine Kd.C_drewN ?_ _) | (with_reducible refine Kd.C_drew ?_))); (case side4 => exact (Kd.R_reads' HO655.out).2.1); rintro e w' ⟨rfl, ⟨nd, rfl⟩⟩; refine ⟨_, rfl, ?_⟩))
    go_meet
    case rel => exact ⟨_, ((t665 != t656)), rS_, H', ⟨by first | omega | exact Nat.le_refl _⟩, ⟨by (with_reducible repeat (first | apply Kd.qat | apply Kd.qas | apply Kd.R_drew)); exact Kd.R_mono HO655.out (fun _ hk => hk.2)⟩, ⟨by (with_reducible repeat (first | apply Kd.qat | apply Kd.qas | apply Kd.R_drew)); exact Kd.R_mono HO664.out (fun _ hk => hk.2)⟩, ⟨by (with_reducible repeat (first | apply Kd.qat | apply Kd.qas | apply Kd.R_drew)); exact Kd.R_mono HO660.out (fun _ hk => trivial)⟩, ⟨by (with_reducible repeat (first | refine qah ?_ _ | refine qaj ?_ | refine qai ?_ _)); exact BK647.out⟩, ⟨by (with_reducible repeat (first | refine qah ?_ _ | refine qaj ?_ | refine qai ?_ _)); exact BK661.out⟩, ⟨by repeat (first | (with_reducible first | exact HB.out | apply qad | apply qaa | apply qac | refine qae ?_ GE647.out | refine qae ?_ GE661.out) | exact HB.out)⟩⟩
   ·replace c27 := Bool.eq_false_iff.mpr c27
    subst c27
    have H1 : (laws_FnExactTwoTables.j0 k t653 t656 t662 t665 true a0_0 l0_1 t657 t658) = some r := by rw [if_neg (show ¬ (false = true) by decide)] at H; exact H
    clear H
    have H := H1
    clear H1
    have H' := Aside0.mk H
    clear H
    obtain ⟨Ao30, co30, eo30⟩ := Kd.R_slice HO664.out
    subst eo30
    obtain ⟨Ao31, co31, eo31⟩ := Kd.R_slice HO655.out
    subst eo31
    go_wp2_with (first | ((with_reducible refine qao (f := 19) rfl ?_); refine goesL_ (some 34) rfl rfl Tryd.func19 (by kernel_rfl) rfl #[.slice Ao30 t662.length co30, .slice Ao31 t653.length co31] rfl mT_ ?_; (with_reducible refine (laws_eqIntS.calls k _ _ t662 _ _ t653 false _ ?side1 ?side2 ?side3 ?side4 A26.out).mono ?_); (case side1 => repeat (first | exact (Kd.R_reads' HO664.out).2.2 | (with_reducible refine Kd.C_alloc ?_ _) | (with_reducible refine Kd.C_drewN ?_ _) | (with_reducible refine Kd.C_drew ?_))); (case side2 => exact (Kd.R_reads' HO664.out).2.1); (case side3 => repeat (first | exact (Kd.R_reads' HO655.out).2.2 | (with_reducible refine Kd.C_alloc ?_ _) | (with_reducible refine Kd.C_drewN ?_ _) | (with_reducible refine Kd.C_drew ?_))); (case side4 => exact (Kd.R_reads' HO655.out).2.1); rintro e w' ⟨rfl, ⟨nd, rfl⟩⟩; refine ⟨_, rfl, ?_⟩))
    go_meet
    case rel => exact ⟨_, (true), rS_, H', ⟨by first | omega | exact Nat.le_refl _⟩, ⟨by (with_reducible repeat (first | apply Kd.qat | apply Kd.qas | apply Kd.R_drew)); exact Kd.R_mono HO655.out (fun _ hk => hk.2)⟩, ⟨by (with_reducible repeat (first | apply Kd.qat | apply Kd.qas | apply Kd.R_drew)); exact Kd.R_mono HO664.out (fun _ hk => hk.2)⟩, ⟨by (with_reducible repeat (first | apply Kd.qat | apply Kd.qas | apply Kd.R_drew)); exact Kd.R_mono HO660.out (fun _ hk => trivial)⟩, ⟨by (with_reducible repeat (first | refine qah ?_ _ | refine qaj ?_ | refine qai ?_ _)); exact BK647.out⟩, ⟨by (with_reducible repeat (first | refine qah ?_ _ | refine qaj ?_ | refine qai ?_ _)); exact BK661.out⟩, ⟨by repeat (first | (with_reducible first | exact HB.out | apply qad | apply qaa | apply qac | refine qae ?_ GE647.out | refine qae ?_ GE661.out) | exact HB.out)⟩⟩
  case rest =>
   clear HC11
   obtain ⟨kq, x40_10, rfl, HA, HJ10, HO_4, HO_7, HO_662001, BK647, BK661, HB⟩ := hcut
   cases kq with
   | zero => exact absurd HA.out (by simp [laws_FnExactTwoTables.j0])
   | succ kj10 =>
    have H := HA.out
    clear HA
    simp only [laws_FnExactTwoTables.j0] at H
    by_cases c32 : x40_10 = true
    ·subst c32
     have H1 : (some false) = some r := by rw [if_pos rfl] at H; exact H
     clear H
     have H := H1
     clear H1
     obtain rfl := Option.some.inj H
     go_wp2
     go_ret
     exact ⟨by first | rfl | (simp [errW_none, errW_some] <;> rfl) | (simp [*, errW_none, errW_some] <;> rfl), by repeat (first | (with_reducible first | exact HB.out | apply qad | apply qaa | apply qac | refine qae ?_ GE647.out | refine qae ?_ GE661.out) | exact HB.out)⟩
    ·replace c32 := Bool.eq_false_iff.mpr c32
     subst c32
     have H1 : ((laws_toParty.f kj10 a0_0 l0_1).bind fun bt667 => ((laws_eqParty.f kj10 t657 t658 bt667.1 bt667.2).bind fun t671 => (if t671 = true then ((laws_markParty.f kj10 t657 t658 1).bind fun bt672 => (if bt672.1 < 0 then (laws_FnExactTwoTables.j1 kj10 t653 t656 t662 true a0_0 l0_1) else ((laws_eqIntS.f kj10 t662 t653).bind fun t674 => (if t674 = true then (laws_FnExactTwoTables.j1 kj10 t653 t656 t662 (t665 != t656) a0_0 l0_1) else (laws_FnExactTwoTables.j1 kj10 t653 t656 t662 true a0_0 l0_1))))) else (some false)))) = some r := by rw [if_neg (show ¬ (false = true) by decide)] at H; exact H
     clear H
     have H := H1
     clear H1
     replace H := Option.bind_eq_some_iff.mp H
     obtain ⟨⟨t667, t668⟩, A330, H⟩ := H
     replace H : ((laws_eqParty.f kj10 t657 t658 t667 t668).bind fun t671 => (if t671 = true then ((laws_markParty.f kj10 t657 t658 1).bind fun bt672 => (if bt672.1 < 0 then (laws_FnExactTwoTables.j1 kj10 t653 t656 t662 true a0_0 l0_1) else ((laws_eqIntS.f kj10 t662 t653).bind fun t674 => (if t674 = true then (laws_FnExactTwoTables.j1 kj10 t653 t656 t662 (t665 != t656) a0_0 l0_1) else (laws_FnExactTwoTables.j1 kj10 t653 t656 t662 true a0_0 l0_1))))) else (some false))) = some r := H
     have A33 := Aside0.mk A330
     clear A330
     replace H := Option.bind_eq_some_iff.mp H
     obtain ⟨t671, A340, H⟩ := H
     replace H : (if t671 = true then ((laws_markParty.f kj10 t657 t658 1).bind fun bt672 => (if bt672.1 < 0 then (laws_FnExactTwoTables.j1 kj10 t653 t656 t662 true a0_0 l0_1) else ((laws_eqIntS.f kj10 t662 t653).bind fun t674 => (if t674 = true then (laws_FnExactTwoTables.j1 kj10 t653 t656 t662 (t665 != t656) a0_0 l0_1) else (laws_FnExactTwoTables.j1 kj10 t653 t656 t662 true a0_0 l0_1))))) else (some false)) = some r := H
     have A34 := Aside0.mk A340
     clear A340
     by_cases c35 : t671 = true
     ·subst c35
      have H1 : ((laws_markParty.f kj10 t657 t658 1).bind fun bt672 => (if bt672.1 < 0 then (laws_FnExactTwoTables.j1 kj10 t653 t656 t662 true a0_0 l0_1) else ((laws_eqIntS.f kj10 t662 t653).bind fun t674 => (if t674 = true then (laws_FnExactTwoTables.j1 kj10 t653 t656 t662 (t665 != t656) a0_0 l0_1) else (laws_FnExactTwoTables.j1 kj10 t653 t656 t662 true a0_0 l0_1))))) = some r := by rw [if_pos rfl] at H; exact H
      clear H
      have H := H1
      clear H1
      replace H := Option.bind_eq_some_iff.mp H
      obtain ⟨⟨t672, t673⟩, A360, H⟩ := H
      replace H : (if t672 < 0 then (laws_FnExactTwoTables.j1 kj10 t653 t656 t662 true a0_0 l0_1) else ((laws_eqIntS.f kj10 t662 t653).bind fun t674 => (if t674 = true then (laws_FnExactTwoTables.j1 kj10 t653 t656 t662 (t665 != t656) a0_0 l0_1) else (laws_FnExactTwoTables.j1 kj10 t653 t656 t662 true a0_0 l0_1)))) = some r := H
      have A36 := Aside0.mk A360
      clear A360
      have HC37 := Aside0.mk H
      clear H
      try go_wp2
      have n0_ := Aside0.mk (Kd.R_drew HO_4.out)
      have n1_ := Aside0.mk (Kd.R_drew HO_7.out)
      have n2_ := Aside0.mk (Kd.R_drew HO_662001.out)
      have n3_ := Aside0.mk (qaj BK647.out)
      have n4_ := Aside0.mk (qaj BK661.out)
      have n5_ := Aside0.mk (qac HB.out)
      clear HO_4
      clear HO_7
      clear HO_662001
      clear BK647
      clear BK661
      clear HB
      have HO_4 := n0_
      have HO_7 := n1_
      have HO_662001 := n2_
      have BK647 := n3_
      have BK661 := n4_
      have HB := n5_
      clear n0_ n1_ n2_ n3_ n4_ n5_
      refine start_ (n := 5) (S := fun w' => w'.cell? ⟨gb661, 0, none⟩ = some (.int .i64 t657) ∧ w'.cell? ⟨gb661, 1, none⟩ = some (.slice Ao24 t658.length co24) ∧ w'.cell? ⟨gb647, 0, none⟩ = some (.int .i64 a0_0) ∧ w'.cell? ⟨gb647, 1, none⟩ = some (.slice A0_1 l0_1.length c0_1)) (ds := []) #[fF,fF,fF,fF,fF] (by kernel_rfl) rfl rfl ⟨(qab BK661.out 0).trans rfl, (qab BK661.out 1).trans rfl, (qab BK647.out 0).trans rfl, (qab BK647.out 1).trans rfl⟩ (fun hHeld => ?_)
      generalize wc.drew = w38 at HO_4 HO_7 HO_662001 BK647 BK661 HB hHeld ⊢
      refine take_ (i := 0) (N := some 41) (v := ?_) (a' := ?_) #[tT,fF,fF,fF,fF] rfl rfl (by kernel_rfl) (fun _ _ _ h => h) (Or.inl ⟨by rfl, ?_⟩) hHeld ?_ ?_
      rotate_left
      ·rintro w' ⟨s0, s1, s2, s3⟩
       go_simp
       with_reducible rfl
      rotate_left
      ·simp only [Act.put, sP_, qam, qan]
       rfl
      refine take_ (i := 1) (N := some 42) (v := ?_) (a' := ?_) #[tT,tT,fF,fF,fF] rfl rfl (by kernel_rfl) (fun _ _ _ h => h) (Or.inl ⟨by rfl, ?_⟩) hHeld ?_ ?_
      rotate_left
      ·rintro w' ⟨s0, s1, s2, s3⟩
       go_simp
       with_reducible rfl
      rotate_left
      ·simp only [Act.put, sP_, qam, qan]
       rfl
      refine one_ (i := 2) (N := some 43) #[tT,tT,tT,fF,fF] rfl rfl (by kernel_rfl) (by decide) (fun K hK => ?_)
      refine goes_ Tryd.func10 (by kernel_rfl) rfl #[.agg #[.int .i64 a0_0, .slice A0_1 l0_1.length c0_1]] (by rfl) rfl rfl mT_ ?_
      with_reducible refine (laws_toParty.calls kj10 a0_0 _ _ l0_1 t667 t668 _ ?side1 ?side2 A33.out).mono ?_
      (case side1 => repeat (first | exact (Kd.C_below HR0_1.out HB.out) | (with_reducible refine Kd.C_alloc ?_ _) | (with_reducible refine Kd.C_drewN ?_ _) | (with_reducible refine Kd.C_drew ?_)))
      (case side2 => exact HC0_1.out)
      rintro e w39 ⟨v669, rfl, ho0, hb⟩
      refine ⟨_, rfl, ?_⟩
      have n0_ := Aside0.mk (Kd.R_below (uR_ HO_4.out) hb)
      have n1_ := Aside0.mk (Kd.R_below (uR_ HO_7.out) hb)
      have n2_ := Aside0.mk (Kd.R_elder' (uR_ HO_662001.out) (Kd.R_base ho0) hb)
      have n3_ := Aside0.mk (Kd.R_lower (Kd.R_new' ho0 (Kd.R_lt (uR_ HO_662001.out))) (qal (hB2_ GE647.out GE661.out)))
      have n4_ := Aside0.mk (qap (g := gb647) (o := .cells #[.int .i64 a0_0, .slice A0_1 l0_1.length c0_1] 24 (0, 0)) (uB_ BK647.out) hb)
      have n5_ := Aside0.mk (qap (g := gb661) (o := .cells #[.int .i64 t657, .slice Ao24 t658.length co24] 30 (0, 0)) (uB_ BK661.out) hb)
      have n6_ := Aside0.mk (qak (hB2_ GE647.out GE661.out) hb)
      clear HO_4
      clear HO_7
      clear HO_662001
      clear BK647
      clear BK661
      clear HB
      have HO_4 := n0_
      have HO_7 := n1_
      have HO_662001 := n2_
      have HO670 := n3_
      have BK647 := n4_
      have BK661 := n5_
      have HB := n6_
      clear n0_ n1_ n2_ n3_ n4_ n5_ n6_
      (try clear hb)
      (try clear hb2)
      (try clear hk)
      (try clear hi)
      (try clear ho0)
      obtain ⟨Ao40, co40, eo40⟩ := Kd.R_slice HO670.out
      (first | subst eo40 | (injection eo40 with f1_ f2_ f3_; have f4_ := f1_.symm; have f5_ := f3_.symm; clear f1_ f2_ f3_; subst f4_; subst f5_))
      refine hK.out _ _ ⟨(qab BK661.out 0).trans rfl, (qab BK661.out 1).trans rfl, (qab BK647.out 0).trans rfl, (qab BK647.out 1).trans rfl⟩ (fun hHeld => ?_)
      clear hK K
      refine norm_ (a' := ?_) ?_ ?_
      rotate_left
      ·show Act.put _ (some 43) _ = _
       simp only [Act.put, sP_, qam, qan]
       rfl
      refine one_ (i := 3) (N := some 44) #[tT,tT,tT,tT,fF] rfl rfl (by kernel_rfl) (by decide) (fun K hK => ?_)
      refine goes_ Tryd.func12 (by kernel_rfl) rfl #[.agg #[.int .i64 t657, .slice Ao24 t658.length co24], .agg #[.int .i64 t667, .slice Ao40 t668.length co40]] (by rfl) rfl rfl mT_ ?_
      with_reducible refine (laws_eqParty.calls kj10 t657 _ _ t658 t667 _ _ t668 true _ ?side1 ?side2 ?side3 ?side4 A34.out).mono ?_
      (case side1 => repeat (first | exact (Kd.R_reads' HO_662001.out).2.2 | (with_reducible refine Kd.C_alloc ?_ _) | (with_reducible refine Kd.C_drewN ?_ _) | (with_reducible refine Kd.C_drew ?_)))
      (case side2 => exact (Kd.R_reads' HO_662001.out).2.1)
      (case side3 => repeat (first | exact (Kd.R_reads' HO670.out).2.2 | (with_reducible refine Kd.C_alloc ?_ _) | (with_reducible refine Kd.C_drewN ?_ _) | (with_reducible refine Kd.C_drew ?_)))
      (case side4 => exact (Kd.R_reads' HO670.out).2.1)
      rintro e w41 ⟨rfl, hb⟩
      refine ⟨_, rfl, ?_⟩
      have n0_ := Aside0.mk (Kd.R_below (uR_ HO_4.out) hb)
      have n1_ := Aside0.mk (Kd.R_below (uR_ HO_7.out) hb)
      have n2_ := Aside0.mk (Kd.R_below (uR_ HO_662001.out) hb)
      have n3_ := Aside0.mk (Kd.R_below (uR_ HO670.out) hb)
      have n4_ := Aside0.mk (qap (g := gb647) (o := .cells #[.int .i64 a0_0, .slice A0_1 l0_1.length c0_1] 24 (0, 0)) (uB_ BK647.out) hb)
      have n5_ := Aside0.mk (qap (g := gb661) (o := .cells #[.int .i64 t657, .slice Ao24 t658.length co24] 30 (0, 0)) (uB_ BK661.out) hb)
      have n6_ := Aside0.mk (qak (hB2_ GE647.out GE661.out) hb)
      clear HO_4
      clear HO_7
      clear HO_662001
      clear HO670
      clear BK647
      clear BK661
      clear HB
      have HO_4 := n0_
      have HO_7 := n1_
      have HO_662001 := n2_
      have HO670 := n3_
      have BK647 := n4_
      have BK661 := n5_
      have HB := n6_
      clear n0_ n1_ n2_ n3_ n4_ n5_ n6_
      (try clear hb)
      (try clear hb2)
      (try clear hk)
      (try clear hi)
      refine hK.out _ _ ⟨(qab BK661.out 0).trans rfl, (qab BK661.out 1).trans rfl, (qab BK647.out 0).trans rfl, (qab BK647.out 1).trans rfl⟩ (fun hHeld => ?_)
      clear hK K
      refine norm_ (a' := ?_) ?_ ?_
      rotate_left
      ·show Act.put _ (some 44) _ = _
       simp only [Act.put, sP_, qam, qan]
       rfl
      refine qar (i := 4) (N := some 45) (v := ?_) (a' := ?_) #[tT,tT,tT,tT,tT] rfl rfl (by kernel_rfl) (fun _ _ _ h => h) (Or.inl ⟨by rfl, ?_⟩) ?_ ?_
      rotate_left
      ·intro w'
       go_simp
       with_reducible rfl
      rotate_left
      ·simp only [Act.put, sP_, qam, qan]
       rfl
      refine done_ (by kernel_rfl) ?_
      have hnb42 := NB661_647.out
      have hnc42 := NB647_661.out
      have hcz43_0 : w41.cell? ⟨gb661, 0, none⟩ = some (.int .i64 t657) := (qab BK661.out 0).trans rfl
      have hcz43_1 : w41.cell? ⟨gb661, 1, none⟩ = some (.slice Ao24 t658.length co24) := (qab BK661.out 1).trans rfl
      have hfz43_0 := qaf BK661.out 0
      have hfz43_1 := qaf BK661.out 1
      go_upto_region 14 with (first | ((with_reducible refine qao (f := 20) rfl ?_); refine goesL_ (some 48) rfl rfl Tryd.func20 (by kernel_rfl) rfl #[.agg #[.int .i64 t657, .slice Ao24 t658.length co24], .int .i64 1] rfl mT_ ?_; (with_reducible refine (laws_markParty.calls kj10 t657 (fun k_ => some k_ = (.slice Ao24 t658.length co24 : Value).ownBlock) (.slice Ao24 t658.length co24) t658 1 t672 t673 w _ ?side1 ?side2 A36.out).mono ?_); (case side1 => repeat (first | (with_reducible first | exact HB.out | apply qad | apply qaa | apply qac | refine qae ?_ GE647.out | refine qae ?_ GE661.out) | exact HB.out)); (case side2 => exact Kd.R_tight rfl HO_662001.out); rintro e w44 ⟨rfl, hy0, hb, hkp⟩; refine ⟨_, rfl, ?_⟩; have n0_ := Aside0.mk (Kd.R_mono (ok' := fun k_ => some k_ ≠ (v663 : Value).ownBlock) (Kd.R_keptB ((Kd.R_apart' HO_4.out (Kd.R_typed HO_662001.out) (by decide))) hkp (fun k_ hk_ hs_ => (hk_.2) hs_)) (fun k_ hk_ => hk_.1.1)); have n1_ := Aside0.mk (Kd.R_mono (ok' := fun k_ => some k_ ≠ (v654 : Value).ownBlock) (Kd.R_keptB ((Kd.R_apart' HO_7.out (Kd.R_typed HO_662001.out) (by decide))) hkp (fun k_ hk_ hs_ => (hk_.2) hs_)) (fun k_ hk_ => hk_.1.1)); have n2_ := Aside0.mk (Kd.R_reok rfl hy0 (fun k_ e_ => HO_662001.out.1 k_ e_)); have n3_ := Aside0.mk (blk_kept (uB_ BK647.out) hkp (fun hs_ => (fun e_ => (Kd.R_ne HO_662001.out BK647.out (by decide)) e_) hs_)); have n4_ := Aside0.mk (blk_kept (uB_ BK661.out) hkp (fun hs_ => (fun e_ => (Kd.R_ne HO_662001.out BK661.out (by decide)) e_) hs_)); have n5_ := Aside0.mk (Kd.R_mono (ok' := fun k_ => some k_ ≠ (.slice Ao24 t658.length co24 : Value).ownBlock) (Kd.R_keptB (HO670.out) hkp (fun k_ hk_ hs_ => (hk_.2) hs_)) (fun k_ hk_ => hk_.1.2)); have n6_ := Aside0.mk (hb); clear HO_4; clear HO_7; clear HO_662001; clear BK647; clear BK661; clear HO670; clear HB; have HO_4 := n0_; have HO_7 := n1_; have HO_662001 := n2_; have BK647 := n3_; have BK661 := n4_; have HO670 := n5_; have HB := n6_; clear n0_ n1_ n2_ n3_ n4_ n5_ n6_; (try clear hb); (try clear hkp); (try clear hy0)))
      (try simp only [Act.put, sP_])
      go_cut [61] (fun v61 wc => ∃ (kq : Nat) (x61_36 : Bool), v61 = .bool x61_36 ∧ Aside0 (laws_FnExactTwoTables.j1 kq t653 t656 t662 x61_36 a0_0 l0_1 = some r) ∧ Aside0 (kq ≤ kj10) ∧ Aside0 (Kd.R (Kd.int .i64) 3 wc w.heap.size (fun k_ => some k_ ≠ (v663 : Value).ownBlock) v654 t653) ∧ Aside0 (Kd.R (Kd.int .i64) 3 wc w.heap.size (fun k_ => some k_ ≠ (v654 : Value).ownBlock) v663 t662) ∧ Aside0 (Kd.R k56 56 wc w.heap.size (fun _ => True) (.slice Ao24 t658.length co24) t673) ∧ Aside0 (wc.heap[gb647]? = some (.cells #[.int .i64 a0_0, (.slice A0_1 l0_1.length c0_1)] 24 (0, 0))) ∧ Aside0 (wc.heap[gb661]? = some (.cells #[.int .i64 t657, (.slice Ao24 t658.length co24)] 30 (0, 0))) ∧ Aside0 (Below w.heap.size w wc))
      case first =>
       have H := HC37.out
       clear HC37
       by_cases c45 : t672 < 0
       ·rw [if_pos c45] at H
        have c45b0 : decide (t672 < 0) = true := decide_eq_true c45
        clear c45
        (first | rw [c45b0] | (simp only [qam, qan]; rw [c45b0]) | skip)
        have H' := Aside0.mk H
        clear H
        go_wp2
        go_meet
        case rel => exact ⟨_, (true), rS_, H', ⟨by have := HJ10.out; first | omega | exact Nat.le_refl _⟩, ⟨by (with_reducible repeat (first | apply Kd.qat | apply Kd.qas | apply Kd.R_drew)); exact HO_4.out⟩, ⟨by (with_reducible repeat (first | apply Kd.qat | apply Kd.qas | apply Kd.R_drew)); exact HO_7.out⟩, ⟨by (with_reducible repeat (first | apply Kd.qat | apply Kd.qas | apply Kd.R_drew)); exact Kd.R_mono HO_662001.out (fun _ hk => trivial)⟩, ⟨by (with_reducible repeat (first | refine qah ?_ _ | refine qaj ?_ | refine qai ?_ _)); exact BK647.out⟩, ⟨by (with_reducible repeat (first | refine qah ?_ _ | refine qaj ?_ | refine qai ?_ _)); exact BK661.out⟩, ⟨by repeat (first | (with_reducible first | exact HB.out | apply qad | apply qaa | apply qac | refine qae ?_ GE647.out | refine qae ?_ GE661.out) | exact HB.out)⟩⟩
       ·rw [if_neg c45] at H
        have c45b0 : decide (t672 < 0) = false := decide_eq_false c45
        clear c45
        (first | rw [c45b0] | (simp only [qam, qan]; rw [c45b0]) | skip)
        replace H := Option.bind_eq_some_iff.mp H
        obtain ⟨t674, A460, H⟩ := H
        replace H : (if t674 = true then (laws_FnExactTwoTables.j1 kj10 t653 t656 t662 (t665 != t656) a0_0 l0_1) else (laws_FnExactTwoTables.j1 kj10 t653 t656 t662 true a0_0 l0_1)) = some r := H
        have A46 := Aside0.mk A460
        clear A460
        by_cases c47 : t674 = true
        ·subst c47
         have H1 : (laws_FnExactTwoTables.j1 kj10 t653 t656 t662 (t665 != t656) a0_0 l0_1) = some r := by rw [if_pos rfl] at H; exact H
         clear H
         have H := H1
         clear H1
         have H' := Aside0.mk H
         clear H
         obtain ⟨Ao48, co48, eo48⟩ := Kd.R_slice HO_7.out
         subst eo48
         obtain ⟨Ao49, co49, eo49⟩ := Kd.R_slice HO_4.out
         subst eo49
         go_wp2_with (first | (go_at_call 19; (with_reducible refine (laws_eqIntS.calls kj10 _ _ t662 _ _ t653 true _ ?side1 ?side2 ?side3 ?side4 A46.out).mono ?_); (case side1 => repeat (first | exact (Kd.R_reads' HO_7.out).2.2 | (with_reducible refine Kd.C_alloc ?_ _) | (with_reducible refine Kd.C_drewN ?_ _) | (with_reducible refine Kd.C_drew ?_))); (case side2 => exact (Kd.R_reads' HO_7.out).2.1); (case side3 => repeat (first | exact (Kd.R_reads' HO_4.out).2.2 | (with_reducible refine Kd.C_alloc ?_ _) | (with_reducible refine Kd.C_drewN ?_ _) | (with_reducible refine Kd.C_drew ?_))); (case side4 => exact (Kd.R_reads' HO_4.out).2.1); rintro e w' ⟨rfl, ⟨nd, rfl⟩⟩))
         go_meet
         case rel => exact ⟨_, ((t665 != t656)), rS_, H', ⟨by have := HJ10.out; first | omega | exact Nat.le_refl _⟩, ⟨by (with_reducible repeat (first | apply Kd.qat | apply Kd.qas | apply Kd.R_drew)); exact HO_4.out⟩, ⟨by (with_reducible repeat (first | apply Kd.qat | apply Kd.qas | apply Kd.R_drew)); exact HO_7.out⟩, ⟨by (with_reducible repeat (first | apply Kd.qat | apply Kd.qas | apply Kd.R_drew)); exact Kd.R_mono HO_662001.out (fun _ hk => trivial)⟩, ⟨by (with_reducible repeat (first | refine qah ?_ _ | refine qaj ?_ | refine qai ?_ _)); exact BK647.out⟩, ⟨by (with_reducible repeat (first | refine qah ?_ _ | refine qaj ?_ | refine qai ?_ _)); exact BK661.out⟩, ⟨by repeat (first | (with_reducible first | exact HB.out | apply qad | apply qaa | apply qac | refine qae ?_ GE647.out | refine qae ?_ GE661.out) | exact HB.out)⟩⟩
        ·replace c47 := Bool.eq_false_iff.mpr c47
         subst c47
         have H1 : (laws_FnExactTwoTables.j1 kj10 t653 t656 t662 true a0_0 l0_1) = some r := by rw [if_neg (show ¬ (false = true) by decide)] at H; exact H
         clear H
         have H := H1
         clear H1
         have H' := Aside0.mk H
         clear H
         obtain ⟨Ao50, co50, eo50⟩ := Kd.R_slice HO_7.out
         subst eo50
         obtain ⟨Ao51, co51, eo51⟩ := Kd.R_slice HO_4.out
         subst eo51
         go_wp2_with (first | (go_at_call 19; (with_reducible refine (laws_eqIntS.calls kj10 _ _ t662 _ _ t653 false _ ?side1 ?side2 ?side3 ?side4 A46.out).mono ?_); (case side1 => repeat (first | exact (Kd.R_reads' HO_7.out).2.2 | (with_reducible refine Kd.C_alloc ?_ _) | (with_reducible refine Kd.C_drewN ?_ _) | (with_reducible refine Kd.C_drew ?_))); (case side2 => exact (Kd.R_reads' HO_7.out).2.1); (case side3 => repeat (first | exact (Kd.R_reads' HO_4.out).2.2 | (with_reducible refine Kd.C_alloc ?_ _) | (with_reducible refine Kd.C_drewN ?_ _) | (with_reducible refine Kd.C_drew ?_))); (case side4 => exact (Kd.R_reads' HO_4.out).2.1); rintro e w' ⟨rfl, ⟨nd, rfl⟩⟩))
         go_meet
         case rel => exact ⟨_, (true), rS_, H', ⟨by have := HJ10.out; first | omega | exact Nat.le_refl _⟩, ⟨by (with_reducible repeat (first | apply Kd.qat | apply Kd.qas | apply Kd.R_drew)); exact HO_4.out⟩, ⟨by (with_reducible repeat (first | apply Kd.qat | apply Kd.qas | apply Kd.R_drew)); exact HO_7.out⟩, ⟨by (with_reducible repeat (first | apply Kd.qat | apply Kd.qas | apply Kd.R_drew)); exact Kd.R_mono HO_662001.out (fun _ hk => trivial)⟩, ⟨by (with_reducible repeat (first | refine qah ?_ _ | refine qaj ?_ | refine qai ?_ _)); exact BK647.out⟩, ⟨by (with_reducible repeat (first | refine qah ?_ _ | refine qaj ?_ | refine qai ?_ _)); exact BK661.out⟩, ⟨by repeat (first | (with_reducible first | exact HB.out | apply qad | apply qaa | apply qac | refine qae ?_ GE647.out | refine qae ?_ GE661.out) | exact HB.out)⟩⟩
      case rest =>
       clear HC37
       obtain ⟨kq, x61_36, rfl, HA, HJ36, HO_4, HO_7, HO_662001, BK647, BK661, HB⟩ := hcut
       have hl662001_36 := (Kd.R_reads' HO_662001.out).1
       rw [hl662001_36] at HO_662001
       (try simp only [hl662001_36])
       (try simp only [hl662001_36] at BK647)
       (try simp only [hl662001_36] at BK661)
       (try simp only [hl662001_36] at HO_4)
       (try simp only [hl662001_36] at HO_7)
       cases kq with
       | zero => exact absurd HA.out (by simp [laws_FnExactTwoTables.j1])
       | succ kj36 =>
        have H := HA.out
        clear HA
        simp only [laws_FnExactTwoTables.j1] at H
        by_cases c52 : x61_36 = true
        ·subst c52
         have H1 : (some false) = some r := by rw [if_pos rfl] at H; exact H
         clear H
         have H := H1
         clear H1
         obtain rfl := Option.some.inj H
         go_wp2
         go_ret
         exact ⟨by first | rfl | (simp [errW_none, errW_some] <;> rfl) | (simp [*, errW_none, errW_some] <;> rfl), by repeat (first | (with_reducible first | exact HB.out | apply qad | apply qaa | apply qac | refine qae ?_ GE647.out | refine qae ?_ GE661.out) | exact HB.out)⟩
        ·replace c52 := Bool.eq_false_iff.mpr c52
         subst c52
         have H1 : ((laws_markIntS.f kj36 t662 1).bind fun bt675 => ((laws_heldIntS.f kj36 bt675.2 1).bind fun t677 => (if t677 < 0 then (some false) else (if t677 = bt675.1 then ((laws_toParty.f kj36 a0_0 l0_1).bind fun bt678 => ((impl_TwoTables.f kj36 bt678.1 bt678.2).bind fun bt682 => ((laws_eqIntS.f kj36 bt682.1 t653).bind fun t686 => (if t686 = true then (laws_FnExactTwoTables.j2 kj36 bt675.2 bt675.1 (bt682.2 != t656)) else (laws_FnExactTwoTables.j2 kj36 bt675.2 bt675.1 true))))) else (some false))))) = some r := by rw [if_neg (show ¬ (false = true) by decide)] at H; exact H
         clear H
         have H := H1
         clear H1
         replace H := Option.bind_eq_some_iff.mp H
         obtain ⟨⟨t675, t676⟩, A530, H⟩ := H
         replace H : ((laws_heldIntS.f kj36 t676 1).bind fun t677 => (if t677 < 0 then (some false) else (if t677 = t675 then ((laws_toParty.f kj36 a0_0 l0_1).bind fun bt678 => ((impl_TwoTables.f kj36 bt678.1 bt678.2).bind fun bt682 => ((laws_eqIntS.f kj36 bt682.1 t653).bind fun t686 => (if t686 = true then (laws_FnExactTwoTables.j2 kj36 t676 t675 (bt682.2 != t656)) else (laws_FnExactTwoTables.j2 kj36 t676 t675 true))))) else (some false)))) = some r := H
         have A53 := Aside0.mk A530
         clear A530
         replace H := Option.bind_eq_some_iff.mp H
         obtain ⟨t677, A540, H⟩ := H
         replace H : (if t677 < 0 then (some false) else (if t677 = t675 then ((laws_toParty.f kj36 a0_0 l0_1).bind fun bt678 => ((impl_TwoTables.f kj36 bt678.1 bt678.2).bind fun bt682 => ((laws_eqIntS.f kj36 bt682.1 t653).bind fun t686 => (if t686 = true then (laws_FnExactTwoTables.j2 kj36 t676 t675 (bt682.2 != t656)) else (laws_FnExactTwoTables.j2 kj36 t676 t675 true))))) else (some false))) = some r := H
         have A54 := Aside0.mk A540
         clear A540
         by_cases c55 : t677 < 0
         ·rw [if_pos c55] at H
          have c55b0 : decide (t677 < 0) = true := decide_eq_true c55
          clear c55
          obtain rfl := Option.some.inj H
          obtain ⟨Ao56, co56, eo56⟩ := Kd.R_slice HO_7.out
          subst eo56
          go_wp2_with (first | ((with_reducible refine qao (f := 21) rfl ?_); refine goesL_ (some 64) rfl rfl Tryd.func21 (by kernel_rfl) rfl #[.slice Ao56 t662.length co56, .int .i64 1] rfl mT_ ?_; (with_reducible refine (laws_markIntS.calls kj36 (fun k_ => some k_ = (.slice Ao56 t662.length co56 : Value).ownBlock) (.slice Ao56 t662.length co56) t662 1 t675 t676 w _ ?side1 ?side2 A53.out).mono ?_); (case side1 => repeat (first | (with_reducible first | exact HB.out | apply qad | apply qaa | apply qac | refine qae ?_ GE647.out | refine qae ?_ GE661.out) | exact HB.out)); (case side2 => exact Kd.R_tight rfl HO_7.out); rintro e w57 ⟨rfl, hy0, hb, hkp⟩; refine ⟨_, rfl, ?_⟩; have n0_ := Aside0.mk (Kd.R_mono (ok' := fun k_ => some k_ ≠ (.slice Ao56 t662.length co56 : Value).ownBlock) (Kd.R_keptB (HO_4.out) hkp (fun k_ hk_ hs_ => (hk_) hs_)) (fun k_ hk_ => hk_.1)); have n1_ := Aside0.mk (Kd.R_reok rfl hy0 (fun k_ e_ => HO_7.out.1 k_ e_)); have n2_ := Aside0.mk (Kd.R_mono (ok' := fun k_ => True) (Kd.R_keptB ((Kd.R_apart' HO_662001.out (Kd.R_typed HO_7.out) (by decide))) hkp (fun k_ hk_ hs_ => (hk_.2) hs_)) (fun k_ hk_ => trivial)); have n3_ := Aside0.mk (blk_kept (uB_ BK647.out) hkp (fun hs_ => (fun e_ => (Kd.R_ne HO_7.out BK647.out (by decide)) e_) hs_)); have n4_ := Aside0.mk (blk_kept (uB_ BK661.out) hkp (fun hs_ => (fun e_ => (Kd.R_ne HO_7.out BK661.out (by decide)) e_) hs_)); have n5_ := Aside0.mk (hb); clear HO_4; clear HO_7; clear HO_662001; clear BK647; clear BK661; clear HB; have HO_4 := n0_; have HO_7 := n1_; have HO_662001 := n2_; have BK647 := n3_; have BK661 := n4_; have HB := n5_; clear n0_ n1_ n2_ n3_ n4_ n5_; (try clear hb); (try clear hkp); (try clear hy0)) | ((with_reducible refine qao (f := 22) rfl ?_); refine goesL_ (some 67) rfl rfl Tryd.func22 (by kernel_rfl) rfl #[.slice Ao56 t676.length co56, .int .i64 1] rfl (by (try simp only [List.map_toArray, List.map_cons, List.map_nil]); first | done | (rw [show t676.length = t662.length from (Kd.R_reads' HO_7.out).1.symm] <;> rfl) | rfl | (simp only [List.length_drop, List.length_take]; rfl)) ?_; (with_reducible refine (laws_heldIntS.calls kj36 _ _ t676 1 t677 _ ?side1 ?side2 A54.out).mono ?_); (case side1 => repeat (first | exact (Kd.R_reads' HO_7.out).2.2 | (with_reducible refine Kd.C_alloc ?_ _) | (with_reducible refine Kd.C_drewN ?_ _) | (with_reducible refine Kd.C_drew ?_))); (case side2 => rw [show t676.length = t662.length from (Kd.R_reads' HO_7.out).1.symm]; exact (Kd.R_reads' HO_7.out).2.1); rintro e w' ⟨rfl, ⟨nd, rfl⟩⟩; refine ⟨_, rfl, ?_⟩))
          go_ret
          exact ⟨by first | rfl | (simp [errW_none, errW_some] <;> rfl) | (simp [*, errW_none, errW_some] <;> rfl), by repeat (first | (with_reducible first | exact HB.out | apply qad | apply qaa | apply qac | refine qae ?_ GE647.out | refine qae ?_ GE661.out) | exact HB.out)⟩
         ·rw [if_neg c55] at H
          have c55b0 : decide (t677 < 0) = false := decide_eq_false c55
          clear c55
          by_cases c58 : t677 = t675
          ·rw [if_pos c58] at H
           have c58b0 : (t677 == t675) = true := beq_iff_eq.mpr c58
           have c58b1 : (t677 != t675) = false := bne_eq_false_iff_eq.mpr c58
           clear c58
           replace H := Option.bind_eq_some_iff.mp H
           obtain ⟨⟨t678, t679⟩, A590, H⟩ := H
           replace H : ((impl_TwoTables.f kj36 t678 t679).bind fun bt682 => ((laws_eqIntS.f kj36 bt682.1 t653).bind fun t686 => (if t686 = true then (laws_FnExactTwoTables.j2 kj36 t676 t675 (bt682.2 != t656)) else (laws_FnExactTwoTables.j2 kj36 t676 t675 true)))) = some r := H
           have A59 := Aside0.mk A590
           clear A590
           replace H := Option.bind_eq_some_iff.mp H
           obtain ⟨⟨t682, t685⟩, A600, H⟩ := H
           replace H : ((laws_eqIntS.f kj36 t682 t653).bind fun t686 => (if t686 = true then (laws_FnExactTwoTables.j2 kj36 t676 t675 (t685 != t656)) else (laws_FnExactTwoTables.j2 kj36 t676 t675 true))) = some r := H
           have A60 := Aside0.mk A600
           clear A600
           have HC61 := Aside0.mk H
           clear H
           obtain ⟨Ao62, co62, eo62⟩ := Kd.R_slice HO_7.out
           subst eo62
           go_upto_region 25 with (first | ((with_reducible refine qao (f := 21) rfl ?_); refine goesL_ (some 64) rfl rfl Tryd.func21 (by kernel_rfl) rfl #[.slice Ao62 t662.length co62, .int .i64 1] rfl mT_ ?_; (with_reducible refine (laws_markIntS.calls kj36 (fun k_ => some k_ = (.slice Ao62 t662.length co62 : Value).ownBlock) (.slice Ao62 t662.length co62) t662 1 t675 t676 w _ ?side1 ?side2 A53.out).mono ?_); (case side1 => repeat (first | (with_reducible first | exact HB.out | apply qad | apply qaa | apply qac | refine qae ?_ GE647.out | refine qae ?_ GE661.out) | exact HB.out)); (case side2 => exact Kd.R_tight rfl HO_7.out); rintro e w63 ⟨rfl, hy0, hb, hkp⟩; refine ⟨_, rfl, ?_⟩; have n0_ := Aside0.mk (Kd.R_mono (ok' := fun k_ => some k_ ≠ (.slice Ao62 t662.length co62 : Value).ownBlock) (Kd.R_keptB (HO_4.out) hkp (fun k_ hk_ hs_ => (hk_) hs_)) (fun k_ hk_ => hk_.1)); have n1_ := Aside0.mk (Kd.R_reok rfl hy0 (fun k_ e_ => HO_7.out.1 k_ e_)); have n2_ := Aside0.mk (Kd.R_mono (ok' := fun k_ => True) (Kd.R_keptB ((Kd.R_apart' HO_662001.out (Kd.R_typed HO_7.out) (by decide))) hkp (fun k_ hk_ hs_ => (hk_.2) hs_)) (fun k_ hk_ => trivial)); have n3_ := Aside0.mk (blk_kept (uB_ BK647.out) hkp (fun hs_ => (fun e_ => (Kd.R_ne HO_7.out BK647.out (by decide)) e_) hs_)); have n4_ := Aside0.mk (blk_kept (uB_ BK661.out) hkp (fun hs_ => (fun e_ => (Kd.R_ne HO_7.out BK661.out (by decide)) e_) hs_)); have n5_ := Aside0.mk (hb); clear HO_4; clear HO_7; clear HO_662001; clear BK647; clear BK661; clear HB; have HO_4 := n0_; have HO_7 := n1_; have HO_662001 := n2_; have BK647 := n3_; have BK661 := n4_; have HB := n5_; clear n0_ n1_ n2_ n3_ n4_ n5_; (try clear hb); (try clear hkp); (try clear hy0)) | ((with_reducible refine qao (f := 22) rfl ?_); refine goesL_ (some 67) rfl rfl Tryd.func22 (by kernel_rfl) rfl #[.slice Ao62 t676.length co62, .int .i64 1] rfl (by (try simp only [List.map_toArray, List.map_cons, List.map_nil]); first | done | (rw [show t676.length = t662.length from (Kd.R_reads' HO_7.out).1.symm] <;> rfl) | rfl | (simp only [List.length_drop, List.length_take]; rfl)) ?_; (with_reducible refine (laws_heldIntS.calls kj36 _ _ t676 1 t677 _ ?side1 ?side2 A54.out).mono ?_); (case side1 => repeat (first | exact (Kd.R_reads' HO_7.out).2.2 | (with_reducible refine Kd.C_alloc ?_ _) | (with_reducible refine Kd.C_drewN ?_ _) | (with_reducible refine Kd.C_drew ?_))); (case side2 => rw [show t676.length = t662.length from (Kd.R_reads' HO_7.out).1.symm]; exact (Kd.R_reads' HO_7.out).2.1); rintro e w' ⟨rfl, ⟨nd, rfl⟩⟩; refine ⟨_, rfl, ?_⟩; have hnb64 := NB647_661.out; have hnc64 := NB661_647.out; have hcz65_0 : w63.cell? ⟨gb647, 0, none⟩ = some (.int .i64 a0_0) := (qab BK647.out 0).trans rfl; have hcz65_1 : w63.cell? ⟨gb647, 1, none⟩ = some (.slice A0_1 l0_1.length c0_1) := (qab BK647.out 1).trans rfl; have hfz65_0 := qaf BK647.out 0; have hfz65_1 := qaf BK647.out 1) | ((with_reducible refine qao (f := 10) rfl ?_); refine goesL_ (some 75) rfl rfl Tryd.func10 (by kernel_rfl) rfl #[.agg #[.int .i64 a0_0, .slice A0_1 l0_1.length c0_1]] rfl mT_ ?_; (with_reducible refine (laws_toParty.calls kj36 a0_0 _ _ l0_1 t678 t679 _ ?side1 ?side2 A59.out).mono ?_); (case side1 => repeat (first | exact (Kd.C_below HR0_1.out (hB2_ GE647.out GE661.out)) | (with_reducible refine Kd.C_alloc ?_ _) | (with_reducible refine Kd.C_drewN ?_ _) | (with_reducible refine Kd.C_drew ?_))); (case side2 => exact HC0_1.out); rintro e w66 ⟨v680, rfl, ho0, hb⟩; refine ⟨_, rfl, ?_⟩; have n0_ := Aside0.mk (Kd.R_below (uR_ HO_4.out) hb); have n1_ := Aside0.mk (Kd.R_below (uR_ HO_7.out) hb); have n2_ := Aside0.mk (Kd.R_elder' (uR_ HO_662001.out) (Kd.R_base ho0) hb); have n3_ := Aside0.mk (Kd.R_lower (Kd.R_new' ho0 (Kd.R_lt (uR_ HO_662001.out))) (qal (hB2_ GE647.out GE661.out))); have n4_ := Aside0.mk (qap (g := gb647) (o := .cells #[.int .i64 a0_0, .slice A0_1 l0_1.length c0_1] 24 (0, 0)) (uB_ BK647.out) hb); have n5_ := Aside0.mk (qap (g := gb661) (o := .cells #[.int .i64 t657, .slice Ao24 t673.length co24] 30 (0, 0)) (uB_ BK661.out) hb); have n6_ := Aside0.mk (qak (hB2_ GE647.out GE661.out) hb); clear HO_4; clear HO_7; clear HO_662001; clear BK647; clear BK661; clear HB; have HO_4 := n0_; have HO_7 := n1_; have HO_662001 := n2_; have HO681 := n3_; have BK647 := n4_; have BK661 := n5_; have HB := n6_; clear n0_ n1_ n2_ n3_ n4_ n5_ n6_; (try clear hb); (try clear hb2); (try clear hk); (try clear hi); (try clear ho0); obtain ⟨Ao67, co67, eo67⟩ := Kd.R_slice HO681.out; subst eo67) | ((with_reducible refine qao (f := 24) rfl ?_); refine goesL_ (some 76) rfl rfl Tryd.func24 (by kernel_rfl) rfl #[.agg #[.int .i64 t678, .slice Ao67 t679.length co67]] rfl mT_ ?_; (with_reducible refine (impl_TwoTables.calls kj36 t678 _ _ t679 t682 t685 _ ?sideG ?side1 ?side2 A60.out).mono ?_); (case sideG => first | exact HG.out | exact Tab.below HG.out (hB2_ GE647.out GE661.out)); (case side1 => repeat (first | exact (Kd.R_reads' HO681.out).2.2 | (with_reducible refine Kd.C_alloc ?_ _) | (with_reducible refine Kd.C_drewN ?_ _) | (with_reducible refine Kd.C_drew ?_))); (case side2 => exact (Kd.R_reads' HO681.out).2.1); rintro e w68 ⟨v683, rfl, ho0, hb⟩; refine ⟨_, rfl, ?_⟩; have n0_ := Aside0.mk (Kd.R_elder' (uR_ HO_4.out) (Kd.R_base ho0) hb); have n1_ := Aside0.mk (Kd.R_elder' (uR_ HO_7.out) (Kd.R_base ho0) hb); have n2_ := Aside0.mk (Kd.R_below (uR_ HO_662001.out) hb); have n3_ := Aside0.mk (Kd.R_below (uR_ HO681.out) hb); have n4_ := Aside0.mk (Kd.R_lower (Kd.R_new' (Kd.R_new' ho0 (Kd.R_lt (uR_ HO_4.out))) (Kd.R_lt (uR_ HO_7.out))) (qal (hB2_ GE647.out GE661.out))); have n5_ := Aside0.mk (qap (g := gb647) (o := .cells #[.int .i64 a0_0, .slice A0_1 l0_1.length c0_1] 24 (0, 0)) (uB_ BK647.out) hb); have n6_ := Aside0.mk (qap (g := gb661) (o := .cells #[.int .i64 t657, .slice Ao24 t673.length co24] 30 (0, 0)) (uB_ BK661.out) hb); have n7_ := Aside0.mk (qak (hB2_ GE647.out GE661.out) hb); clear HO_4; clear HO_7; clear HO_662001; clear HO681; clear BK647; clear BK661; clear HB; have HO_4 := n0_; have HO_7 := n1_; have HO_662001 := n2_; have HO681 := n3_; have HO684 := n4_; have BK647 := n5_; have BK661 := n6_; have HB := n7_; clear n0_ n1_ n2_ n3_ n4_ n5_ n6_ n7_; (try clear hb); (try clear hb2); (try clear hk); (try clear hi); (try clear ho0)))
           (try simp only [Act.put, sP_])
           go_cut [87] (fun v87 wc => ∃ (kq : Nat) (x87_60 : Bool), v87 = .bool x87_60 ∧ Aside0 (laws_FnExactTwoTables.j2 kq t676 t675 x87_60 = some r) ∧ Aside0 (kq ≤ kj36) ∧ Aside0 (Kd.R (Kd.int .i64) 3 wc w.heap.size (fun _ => True) (.slice Ao62 t662.length co62) t676) ∧ Aside0 (Kd.R k56 56 wc w.heap.size (fun _ => True) (.slice Ao24 t673.length co24) t673) ∧ Aside0 (wc.heap[gb647]? = some (.cells #[.int .i64 a0_0, (.slice A0_1 l0_1.length c0_1)] 24 (0, 0))) ∧ Aside0 (wc.heap[gb661]? = some (.cells #[.int .i64 t657, (.slice Ao24 t673.length co24)] 30 (0, 0))) ∧ Aside0 (Below w.heap.size w wc))
           case first =>
            have H := HC61.out
            clear HC61
            replace H := Option.bind_eq_some_iff.mp H
            obtain ⟨t686, A690, H⟩ := H
            replace H : (if t686 = true then (laws_FnExactTwoTables.j2 kj36 t676 t675 (t685 != t656)) else (laws_FnExactTwoTables.j2 kj36 t676 t675 true)) = some r := H
            have A69 := Aside0.mk A690
            clear A690
            by_cases c70 : t686 = true
            ·subst c70
             have H1 : (laws_FnExactTwoTables.j2 kj36 t676 t675 (t685 != t656)) = some r := by rw [if_pos rfl] at H; exact H
             clear H
             have H := H1
             clear H1
             have H' := Aside0.mk H
             clear H
             obtain ⟨Ao71, co71, eo71⟩ := Kd.R_slice HO684.out
             subst eo71
             obtain ⟨Ao72, co72, eo72⟩ := Kd.R_slice HO_4.out
             subst eo72
             go_wp2_with (first | ((with_reducible refine qao (f := 19) rfl ?_); refine goesL_ (some 81) rfl rfl Tryd.func19 (by kernel_rfl) rfl #[.slice Ao71 t682.length co71, .slice Ao72 t653.length co72] rfl mT_ ?_; (with_reducible refine (laws_eqIntS.calls kj36 _ _ t682 _ _ t653 true _ ?side1 ?side2 ?side3 ?side4 A69.out).mono ?_); (case side1 => repeat (first | exact (Kd.R_reads' HO684.out).2.2 | (with_reducible refine Kd.C_alloc ?_ _) | (with_reducible refine Kd.C_drewN ?_ _) | (with_reducible refine Kd.C_drew ?_))); (case side2 => exact (Kd.R_reads' HO684.out).2.1); (case side3 => repeat (first | exact (Kd.R_reads' HO_4.out).2.2 | (with_reducible refine Kd.C_alloc ?_ _) | (with_reducible refine Kd.C_drewN ?_ _) | (with_reducible refine Kd.C_drew ?_))); (case side4 => exact (Kd.R_reads' HO_4.out).2.1); rintro e w' ⟨rfl, ⟨nd, rfl⟩⟩; refine ⟨_, rfl, ?_⟩))
             go_meet
             case rel => exact ⟨_, ((t685 != t656)), rS_, H', ⟨by have := HJ10.out; have := HJ36.out; first | omega | exact Nat.le_refl _⟩, ⟨by (try simp only [hl662001_36]); (with_reducible repeat (first | apply Kd.qat | apply Kd.qas | apply Kd.R_drew)); exact Kd.R_mono HO_7.out (fun _ hk => trivial)⟩, ⟨by (try simp only [hl662001_36]); (with_reducible repeat (first | apply Kd.qat | apply Kd.qas | apply Kd.R_drew)); exact Kd.R_mono HO_662001.out (fun _ hk => trivial)⟩, ⟨by (try simp only [hl662001_36]); (with_reducible repeat (first | refine qah ?_ _ | refine qaj ?_ | refine qai ?_ _)); exact BK647.out⟩, ⟨by (try simp only [hl662001_36]); (with_reducible repeat (first | refine qah ?_ _ | refine qaj ?_ | refine qai ?_ _)); exact BK661.out⟩, ⟨by repeat (first | (with_reducible first | exact HB.out | apply qad | apply qaa | apply qac | refine qae ?_ GE647.out | refine qae ?_ GE661.out) | exact HB.out)⟩⟩
            ·replace c70 := Bool.eq_false_iff.mpr c70
             subst c70
             have H1 : (laws_FnExactTwoTables.j2 kj36 t676 t675 true) = some r := by rw [if_neg (show ¬ (false = true) by decide)] at H; exact H
             clear H
             have H := H1
             clear H1
             have H' := Aside0.mk H
             clear H
             obtain ⟨Ao73, co73, eo73⟩ := Kd.R_slice HO684.out
             subst eo73
             obtain ⟨Ao74, co74, eo74⟩ := Kd.R_slice HO_4.out
             subst eo74
             go_wp2_with (first | ((with_reducible refine qao (f := 19) rfl ?_); refine goesL_ (some 81) rfl rfl Tryd.func19 (by kernel_rfl) rfl #[.slice Ao73 t682.length co73, .slice Ao74 t653.length co74] rfl mT_ ?_; (with_reducible refine (laws_eqIntS.calls kj36 _ _ t682 _ _ t653 false _ ?side1 ?side2 ?side3 ?side4 A69.out).mono ?_); (case side1 => repeat (first | exact (Kd.R_reads' HO684.out).2.2 | (with_reducible refine Kd.C_alloc ?_ _) | (with_reducible refine Kd.C_drewN ?_ _) | (with_reducible refine Kd.C_drew ?_))); (case side2 => exact (Kd.R_reads' HO684.out).2.1); (case side3 => repeat (first | exact (Kd.R_reads' HO_4.out).2.2 | (with_reducible refine Kd.C_alloc ?_ _) | (with_reducible refine Kd.C_drewN ?_ _) | (with_reducible refine Kd.C_drew ?_))); (case side4 => exact (Kd.R_reads' HO_4.out).2.1); rintro e w' ⟨rfl, ⟨nd, rfl⟩⟩; refine ⟨_, rfl, ?_⟩))
             go_meet
             case rel => exact ⟨_, (true), rS_, H', ⟨by have := HJ10.out; have := HJ36.out; first | omega | exact Nat.le_refl _⟩, ⟨by (try simp only [hl662001_36]); (with_reducible repeat (first | apply Kd.qat | apply Kd.qas | apply Kd.R_drew)); exact Kd.R_mono HO_7.out (fun _ hk => trivial)⟩, ⟨by (try simp only [hl662001_36]); (with_reducible repeat (first | apply Kd.qat | apply Kd.qas | apply Kd.R_drew)); exact Kd.R_mono HO_662001.out (fun _ hk => trivial)⟩, ⟨by (try simp only [hl662001_36]); (with_reducible repeat (first | refine qah ?_ _ | refine qaj ?_ | refine qai ?_ _)); exact BK647.out⟩, ⟨by (try simp only [hl662001_36]); (with_reducible repeat (first | refine qah ?_ _ | refine qaj ?_ | refine qai ?_ _)); exact BK661.out⟩, ⟨by repeat (first | (with_reducible first | exact HB.out | apply qad | apply qaa | apply qac | refine qae ?_ GE647.out | refine qae ?_ GE661.out) | exact HB.out)⟩⟩
           case rest =>
            clear HC61
            obtain ⟨kq, x87_60, rfl, HA, HJ60, HO_7, HO_662001, BK647, BK661, HB⟩ := hcut
            have hl7_60 := (Kd.R_reads' HO_7.out).1
            rw [hl7_60] at HO_7
            (try simp only [hl7_60])
            (try simp only [hl7_60] at BK647)
            (try simp only [hl7_60] at BK661)
            (try simp only [hl7_60] at HO_662001)
            cases kq with
            | zero => exact absurd HA.out (by simp [laws_FnExactTwoTables.j2])
            | succ kj60 =>
             have H := HA.out
             clear HA
             simp only [laws_FnExactTwoTables.j2] at H
             by_cases c75 : x87_60 = true
             ·subst c75
              have H1 : (some false) = some r := by rw [if_pos rfl] at H; exact H
              clear H
              have H := H1
              clear H1
              obtain rfl := Option.some.inj H
              go_wp2
              go_ret
              exact ⟨by first | rfl | (simp [errW_none, errW_some] <;> rfl) | (simp [*, errW_none, errW_some] <;> rfl), by repeat (first | (with_reducible first | exact HB.out | apply qad | apply qaa | apply qac | refine qae ?_ GE647.out | refine qae ?_ GE661.out) | exact HB.out)⟩
             ·replace c75 := Bool.eq_false_iff.mpr c75
              subst c75
              have H1 : ((laws_heldIntS.f kj60 t676 1).bind fun t687 => (if t687 < 0 then (some false) else (if t687 = t675 then (some true) else (some false)))) = some r := by rw [if_neg (show ¬ (false = true) by decide)] at H; exact H
              clear H
              have H := H1
              clear H1
              replace H := Option.bind_eq_some_iff.mp H
              obtain ⟨t687, A760, H⟩ := H
              replace H : (if t687 < 0 then (some false) else (if t687 = t675 then (some true) else (some false))) = some r := H
              have A76 := Aside0.mk A760
              clear A760
              by_cases c77 : t687 < 0
              ·rw [if_pos c77] at H
               have c77b0 : decide (t687 < 0) = true := decide_eq_true c77
               clear c77
               obtain rfl := Option.some.inj H
               go_wp2_with (first | ((with_reducible refine qao (f := 22) rfl ?_); refine goesL_ (some 90) rfl rfl Tryd.func22 (by kernel_rfl) rfl #[.slice Ao62 t676.length co62, .int .i64 1] rfl mT_ ?_; (with_reducible refine (laws_heldIntS.calls kj60 _ _ t676 1 t687 _ ?side1 ?side2 A76.out).mono ?_); (case side1 => repeat (first | exact (Kd.R_reads' HO_7.out).2.2 | (with_reducible refine Kd.C_alloc ?_ _) | (with_reducible refine Kd.C_drewN ?_ _) | (with_reducible refine Kd.C_drew ?_))); (case side2 => exact (Kd.R_reads' HO_7.out).2.1); rintro e w' ⟨rfl, ⟨nd, rfl⟩⟩; refine ⟨_, rfl, ?_⟩))
               go_ret
               exact ⟨by first | rfl | (simp [errW_none, errW_some] <;> rfl) | (simp [*, errW_none, errW_some] <;> rfl), by repeat (first | (with_reducible first | exact HB.out | apply qad | apply qaa | apply qac | refine qae ?_ GE647.out | refine qae ?_ GE661.out) | exact HB.out)⟩
              ·rw [if_neg c77] at H
               have c77b0 : decide (t687 < 0) = false := decide_eq_false c77
               clear c77
               by_cases c78 : t687 = t675
               ·rw [if_pos c78] at H
                have c78b0 : (t687 == t675) = true := beq_iff_eq.mpr c78
                have c78b1 : (t687 != t675) = false := bne_eq_false_iff_eq.mpr c78
                clear c78
                obtain rfl := Option.some.inj H
                go_wp2_with (first | ((with_reducible refine qao (f := 22) rfl ?_); refine goesL_ (some 90) rfl rfl Tryd.func22 (by kernel_rfl) rfl #[.slice Ao62 t676.length co62, .int .i64 1] rfl mT_ ?_; (with_reducible refine (laws_heldIntS.calls kj60 _ _ t676 1 t687 _ ?side1 ?side2 A76.out).mono ?_); (case side1 => repeat (first | exact (Kd.R_reads' HO_7.out).2.2 | (with_reducible refine Kd.C_alloc ?_ _) | (with_reducible refine Kd.C_drewN ?_ _) | (with_reducible refine Kd.C_drew ?_))); (case side2 => exact (Kd.R_reads' HO_7.out).2.1); rintro e w' ⟨rfl, ⟨nd, rfl⟩⟩; refine ⟨_, rfl, ?_⟩))
                go_ret
                exact ⟨by first | rfl | (simp [errW_none, errW_some] <;> rfl) | (simp [*, errW_none, errW_some] <;> rfl), by repeat (first | (with_reducible first | exact HB.out | apply qad | apply qaa | apply qac | refine qae ?_ GE647.out | refine qae ?_ GE661.out) | exact HB.out)⟩
               ·rw [if_neg c78] at H
                have c78b0 : (t687 == t675) = false := beq_eq_false_iff_ne.mpr c78
                have c78b1 : (t687 != t675) = true := bne_iff_ne.mpr c78
                obtain rfl := Option.some.inj H
                go_wp2_with (first | ((with_reducible refine qao (f := 22) rfl ?_); refine goesL_ (some 90) rfl rfl Tryd.func22 (by kernel_rfl) rfl #[.slice Ao62 t676.length co62, .int .i64 1] rfl mT_ ?_; (with_reducible refine (laws_heldIntS.calls kj60 _ _ t676 1 t687 _ ?side1 ?side2 A76.out).mono ?_); (case side1 => repeat (first | exact (Kd.R_reads' HO_7.out).2.2 | (with_reducible refine Kd.C_alloc ?_ _) | (with_reducible refine Kd.C_drewN ?_ _) | (with_reducible refine Kd.C_drew ?_))); (case side2 => exact (Kd.R_reads' HO_7.out).2.1); rintro e w' ⟨rfl, ⟨nd, rfl⟩⟩; refine ⟨_, rfl, ?_⟩))
                go_ret
                exact ⟨by first | rfl | (simp [errW_none, errW_some] <;> rfl) | (simp [*, errW_none, errW_some] <;> rfl), by repeat (first | (with_reducible first | exact HB.out | apply qad | apply qaa | apply qac | refine qae ?_ GE647.out | refine qae ?_ GE661.out) | exact HB.out)⟩
          ·rw [if_neg c58] at H
           have c58b0 : (t677 == t675) = false := beq_eq_false_iff_ne.mpr c58
           have c58b1 : (t677 != t675) = true := bne_iff_ne.mpr c58
           obtain rfl := Option.some.inj H
           obtain ⟨Ao79, co79, eo79⟩ := Kd.R_slice HO_7.out
           subst eo79
           go_wp2_with (first | ((with_reducible refine qao (f := 21) rfl ?_); refine goesL_ (some 64) rfl rfl Tryd.func21 (by kernel_rfl) rfl #[.slice Ao79 t662.length co79, .int .i64 1] rfl mT_ ?_; (with_reducible refine (laws_markIntS.calls kj36 (fun k_ => some k_ = (.slice Ao79 t662.length co79 : Value).ownBlock) (.slice Ao79 t662.length co79) t662 1 t675 t676 w _ ?side1 ?side2 A53.out).mono ?_); (case side1 => repeat (first | (with_reducible first | exact HB.out | apply qad | apply qaa | apply qac | refine qae ?_ GE647.out | refine qae ?_ GE661.out) | exact HB.out)); (case side2 => exact Kd.R_tight rfl HO_7.out); rintro e w80 ⟨rfl, hy0, hb, hkp⟩; refine ⟨_, rfl, ?_⟩; have n0_ := Aside0.mk (Kd.R_mono (ok' := fun k_ => some k_ ≠ (.slice Ao79 t662.length co79 : Value).ownBlock) (Kd.R_keptB (HO_4.out) hkp (fun k_ hk_ hs_ => (hk_) hs_)) (fun k_ hk_ => hk_.1)); have n1_ := Aside0.mk (Kd.R_reok rfl hy0 (fun k_ e_ => HO_7.out.1 k_ e_)); have n2_ := Aside0.mk (Kd.R_mono (ok' := fun k_ => True) (Kd.R_keptB ((Kd.R_apart' HO_662001.out (Kd.R_typed HO_7.out) (by decide))) hkp (fun k_ hk_ hs_ => (hk_.2) hs_)) (fun k_ hk_ => trivial)); have n3_ := Aside0.mk (blk_kept (uB_ BK647.out) hkp (fun hs_ => (fun e_ => (Kd.R_ne HO_7.out BK647.out (by decide)) e_) hs_)); have n4_ := Aside0.mk (blk_kept (uB_ BK661.out) hkp (fun hs_ => (fun e_ => (Kd.R_ne HO_7.out BK661.out (by decide)) e_) hs_)); have n5_ := Aside0.mk (hb); clear HO_4; clear HO_7; clear HO_662001; clear BK647; clear BK661; clear HB; have HO_4 := n0_; have HO_7 := n1_; have HO_662001 := n2_; have BK647 := n3_; have BK661 := n4_; have HB := n5_; clear n0_ n1_ n2_ n3_ n4_ n5_; (try clear hb); (try clear hkp); (try clear hy0)) | ((with_reducible refine qao (f := 22) rfl ?_); refine goesL_ (some 67) rfl rfl Tryd.func22 (by kernel_rfl) rfl #[.slice Ao79 t676.length co79, .int .i64 1] rfl (by (try simp only [List.map_toArray, List.map_cons, List.map_nil]); first | done | (rw [show t676.length = t662.length from (Kd.R_reads' HO_7.out).1.symm] <;> rfl) | rfl | (simp only [List.length_drop, List.length_take]; rfl)) ?_; (with_reducible refine (laws_heldIntS.calls kj36 _ _ t676 1 t677 _ ?side1 ?side2 A54.out).mono ?_); (case side1 => repeat (first | exact (Kd.R_reads' HO_7.out).2.2 | (with_reducible refine Kd.C_alloc ?_ _) | (with_reducible refine Kd.C_drewN ?_ _) | (with_reducible refine Kd.C_drew ?_))); (case side2 => rw [show t676.length = t662.length from (Kd.R_reads' HO_7.out).1.symm]; exact (Kd.R_reads' HO_7.out).2.1); rintro e w' ⟨rfl, ⟨nd, rfl⟩⟩; refine ⟨_, rfl, ?_⟩))
           go_ret
           exact ⟨by first | rfl | (simp [errW_none, errW_some] <;> rfl) | (simp [*, errW_none, errW_some] <;> rfl), by repeat (first | (with_reducible first | exact HB.out | apply qad | apply qaa | apply qac | refine qae ?_ GE647.out | refine qae ?_ GE661.out) | exact HB.out)⟩
     ·replace c35 := Bool.eq_false_iff.mpr c35
      subst c35
      have H1 : (some false) = some r := by rw [if_neg (show ¬ (false = true) by decide)] at H; exact H
      clear H
      have H := H1
      clear H1
      obtain rfl := Option.some.inj H
      try go_wp2
      have n0_ := Aside0.mk (Kd.R_drew HO_4.out)
      have n1_ := Aside0.mk (Kd.R_drew HO_7.out)
      have n2_ := Aside0.mk (Kd.R_drew HO_662001.out)
      have n3_ := Aside0.mk (qaj BK647.out)
      have n4_ := Aside0.mk (qaj BK661.out)
      have n5_ := Aside0.mk (qac HB.out)
      clear HO_4
      clear HO_7
      clear HO_662001
      clear BK647
      clear BK661
      clear HB
      have HO_4 := n0_
      have HO_7 := n1_
      have HO_662001 := n2_
      have BK647 := n3_
      have BK661 := n4_
      have HB := n5_
      clear n0_ n1_ n2_ n3_ n4_ n5_
      refine start_ (n := 5) (S := fun w' => w'.cell? ⟨gb661, 0, none⟩ = some (.int .i64 t657) ∧ w'.cell? ⟨gb661, 1, none⟩ = some (.slice Ao24 t658.length co24) ∧ w'.cell? ⟨gb647, 0, none⟩ = some (.int .i64 a0_0) ∧ w'.cell? ⟨gb647, 1, none⟩ = some (.slice A0_1 l0_1.length c0_1)) (ds := []) #[fF,fF,fF,fF,fF] (by kernel_rfl) rfl rfl ⟨(qab BK661.out 0).trans rfl, (qab BK661.out 1).trans rfl, (qab BK647.out 0).trans rfl, (qab BK647.out 1).trans rfl⟩ (fun hHeld => ?_)
      generalize wc.drew = w81 at HO_4 HO_7 HO_662001 BK647 BK661 HB hHeld ⊢
      refine take_ (i := 0) (N := some 41) (v := ?_) (a' := ?_) #[tT,fF,fF,fF,fF] rfl rfl (by kernel_rfl) (fun _ _ _ h => h) (Or.inl ⟨by rfl, ?_⟩) hHeld ?_ ?_
      rotate_left
      ·rintro w' ⟨s0, s1, s2, s3⟩
       go_simp
       with_reducible rfl
      rotate_left
      ·simp only [Act.put, sP_, qam, qan]
       rfl
      refine take_ (i := 1) (N := some 42) (v := ?_) (a' := ?_) #[tT,tT,fF,fF,fF] rfl rfl (by kernel_rfl) (fun _ _ _ h => h) (Or.inl ⟨by rfl, ?_⟩) hHeld ?_ ?_
      rotate_left
      ·rintro w' ⟨s0, s1, s2, s3⟩
       go_simp
       with_reducible rfl
      rotate_left
      ·simp only [Act.put, sP_, qam, qan]
       rfl
      refine one_ (i := 2) (N := some 43) #[tT,tT,tT,fF,fF] rfl rfl (by kernel_rfl) (by decide) (fun K hK => ?_)
      refine goes_ Tryd.func10 (by kernel_rfl) rfl #[.agg #[.int .i64 a0_0, .slice A0_1 l0_1.length c0_1]] (by rfl) rfl rfl mT_ ?_
      with_reducible refine (laws_toParty.calls kj10 a0_0 _ _ l0_1 t667 t668 _ ?side1 ?side2 A33.out).mono ?_
      (case side1 => repeat (first | exact (Kd.C_below HR0_1.out HB.out) | (with_reducible refine Kd.C_alloc ?_ _) | (with_reducible refine Kd.C_drewN ?_ _) | (with_reducible refine Kd.C_drew ?_)))
      (case side2 => exact HC0_1.out)
      rintro e w82 ⟨v669, rfl, ho0, hb⟩
      refine ⟨_, rfl, ?_⟩
      have n0_ := Aside0.mk (Kd.R_below (uR_ HO_4.out) hb)
      have n1_ := Aside0.mk (Kd.R_below (uR_ HO_7.out) hb)
      have n2_ := Aside0.mk (Kd.R_elder' (uR_ HO_662001.out) (Kd.R_base ho0) hb)
      have n3_ := Aside0.mk (Kd.R_lower (Kd.R_new' ho0 (Kd.R_lt (uR_ HO_662001.out))) (qal (hB2_ GE647.out GE661.out)))
      have n4_ := Aside0.mk (qap (g := gb647) (o := .cells #[.int .i64 a0_0, .slice A0_1 l0_1.length c0_1] 24 (0, 0)) (uB_ BK647.out) hb)
      have n5_ := Aside0.mk (qap (g := gb661) (o := .cells #[.int .i64 t657, .slice Ao24 t658.length co24] 30 (0, 0)) (uB_ BK661.out) hb)
      have n6_ := Aside0.mk (qak (hB2_ GE647.out GE661.out) hb)
      clear HO_4
      clear HO_7
      clear HO_662001
      clear BK647
      clear BK661
      clear HB
      have HO_4 := n0_
      have HO_7 := n1_
      have HO_662001 := n2_
      have HO670 := n3_
      have BK647 := n4_
      have BK661 := n5_
      have HB := n6_
      clear n0_ n1_ n2_ n3_ n4_ n5_ n6_
      (try clear hb)
      (try clear hb2)
      (try clear hk)
      (try clear hi)
      (try clear ho0)
      obtain ⟨Ao83, co83, eo83⟩ := Kd.R_slice HO670.out
      (first | subst eo83 | (injection eo83 with f1_ f2_ f3_; have f4_ := f1_.symm; have f5_ := f3_.symm; clear f1_ f2_ f3_; subst f4_; subst f5_))
      refine hK.out _ _ ⟨(qab BK661.out 0).trans rfl, (qab BK661.out 1).trans rfl, (qab BK647.out 0).trans rfl, (qab BK647.out 1).trans rfl⟩ (fun hHeld => ?_)
      clear hK K
      refine norm_ (a' := ?_) ?_ ?_
      rotate_left
      ·show Act.put _ (some 43) _ = _
       simp only [Act.put, sP_, qam, qan]
       rfl
      refine one_ (i := 3) (N := some 44) #[tT,tT,tT,tT,fF] rfl rfl (by kernel_rfl) (by decide) (fun K hK => ?_)
      refine goes_ Tryd.func12 (by kernel_rfl) rfl #[.agg #[.int .i64 t657, .slice Ao24 t658.length co24], .agg #[.int .i64 t667, .slice Ao83 t668.length co83]] (by rfl) rfl rfl mT_ ?_
      with_reducible refine (laws_eqParty.calls kj10 t657 _ _ t658 t667 _ _ t668 false _ ?side1 ?side2 ?side3 ?side4 A34.out).mono ?_
      (case side1 => repeat (first | exact (Kd.R_reads' HO_662001.out).2.2 | (with_reducible refine Kd.C_alloc ?_ _) | (with_reducible refine Kd.C_drewN ?_ _) | (with_reducible refine Kd.C_drew ?_)))
      (case side2 => exact (Kd.R_reads' HO_662001.out).2.1)
      (case side3 => repeat (first | exact (Kd.R_reads' HO670.out).2.2 | (with_reducible refine Kd.C_alloc ?_ _) | (with_reducible refine Kd.C_drewN ?_ _) | (with_reducible refine Kd.C_drew ?_)))
      (case side4 => exact (Kd.R_reads' HO670.out).2.1)
      rintro e w84 ⟨rfl, hb⟩
      refine ⟨_, rfl, ?_⟩
      have n0_ := Aside0.mk (Kd.R_below (uR_ HO_4.out) hb)
      have n1_ := Aside0.mk (Kd.R_below (uR_ HO_7.out) hb)
      have n2_ := Aside0.mk (Kd.R_below (uR_ HO_662001.out) hb)
      have n3_ := Aside0.mk (Kd.R_below (uR_ HO670.out) hb)
      have n4_ := Aside0.mk (qap (g := gb647) (o := .cells #[.int .i64 a0_0, .slice A0_1 l0_1.length c0_1] 24 (0, 0)) (uB_ BK647.out) hb)
      have n5_ := Aside0.mk (qap (g := gb661) (o := .cells #[.int .i64 t657, .slice Ao24 t658.length co24] 30 (0, 0)) (uB_ BK661.out) hb)
      have n6_ := Aside0.mk (qak (hB2_ GE647.out GE661.out) hb)
      clear HO_4
      clear HO_7
      clear HO_662001
      clear HO670
      clear BK647
      clear BK661
      clear HB
      have HO_4 := n0_
      have HO_7 := n1_
      have HO_662001 := n2_
      have HO670 := n3_
      have BK647 := n4_
      have BK661 := n5_
      have HB := n6_
      clear n0_ n1_ n2_ n3_ n4_ n5_ n6_
      (try clear hb)
      (try clear hb2)
      (try clear hk)
      (try clear hi)
      refine hK.out _ _ ⟨(qab BK661.out 0).trans rfl, (qab BK661.out 1).trans rfl, (qab BK647.out 0).trans rfl, (qab BK647.out 1).trans rfl⟩ (fun hHeld => ?_)
      clear hK K
      refine norm_ (a' := ?_) ?_ ?_
      rotate_left
      ·show Act.put _ (some 44) _ = _
       simp only [Act.put, sP_, qam, qan]
       rfl
      refine qar (i := 4) (N := some 45) (v := ?_) (a' := ?_) #[tT,tT,tT,tT,tT] rfl rfl (by kernel_rfl) (fun _ _ _ h => h) (Or.inl ⟨by rfl, ?_⟩) ?_ ?_
      rotate_left
      ·intro w'
       go_simp
       with_reducible rfl
      rotate_left
      ·simp only [Act.put, sP_, qam, qan]
       rfl
      refine done_ (by kernel_rfl) ?_
      try go_wp2
      go_ret
      exact ⟨by first | rfl | (simp [errW_none, errW_some] <;> rfl) | (simp [*, errW_none, errW_some] <;> rfl), by repeat (first | (with_reducible first | exact HB.out | apply qad | apply qaa | apply qac | refine qae ?_ GE647.out | refine qae ?_ GE661.out) | exact HB.out)⟩

end Go.Proofs.YtedfcbbklhfgcaaDoor.Q
