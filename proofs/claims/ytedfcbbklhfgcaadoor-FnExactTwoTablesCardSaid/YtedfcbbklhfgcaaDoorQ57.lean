import Derived.Test.YtedfcbbklhfgcaaDoorQ0
import Derived.Test.YtedfcbbklhfgcaaDoorQ30
import Derived.Test.YtedfcbbklhfgcaaDoorQ31
namespace Go.Proofs.YtedfcbbklhfgcaaDoor.Q
open Go.RowKit Go.Proofs.YtedfcbbklhfgcaaDoorW.PrintWords Go.Proofs.YtedfcbbklhfgcaaDoorW.PrintLast Go.Proofs.YtedfcbbklhfgcaaDoorW.PrintMore
attribute [local go_sem] max2_int min2_int max_two min_two max_three min_three max_four min_four   -- for this text's walks alone
set_option linter.unusedVariables false
set_option linter.unusedSimpArgs false

/-! ### impl_table_parts: function 62 -/
mutual
def impl_table_parts.l0 : Nat → List Int → List (List Int) → Int → Int → Int → Option ((List (List Int)))
 | 0, _, _, _, _, _ => none
 | k + 1, x0, x3, x4, x11, x12 => if x12 < x11 then (if 0 ≤ x12 then (if (Go.bits .and .u16 (shr .u16 x4 x12) 1) = 1 then (impl_table_parts.l0 k x0 x3 x4 x11 (wrap64 (x12 + 1))) else (impl_table_parts.l1 k x0 x3 x4 (shl .u16 1 x12) x11 x12 (x0.length : Int) 0)) else (none)) else (some x3)
def impl_table_parts.l1 : Nat → List Int → List (List Int) → Int → Int → Int → Int → Int → Int → Option ((List (List Int)))
 | 0, _, _, _, _, _, _, _, _ => none
 | k + 1, x0, x3, x4, x6, x11, x12, x23, x24 => if x24 < x23 then ((impl_listed.f k x6).bind fun t514 => (impl_table_parts.l2 k x0 x3 x4 x6 x11 x12 x23 x24 t514 (t514.length : Int) 0)) else ((impl_listed.f k x6).bind fun t508 => (if x3.length < 5864062014805 then (impl_table_parts.l0 k x0 (x3 ++ [t508]) (Go.bits .or .u16 x4 x6) x11 (wrap64 (x12 + 1))) else (none)))
def impl_table_parts.l2 : Nat → List Int → List (List Int) → Int → Int → Int → Int → Int → Int → List Int → Int → Int → Option ((List (List Int)))
 | 0, _, _, _, _, _, _, _, _, _, _, _ => none
 | k + 1, x0, x3, x4, x6, x11, x12, x23, x24, x27, x28, x29 => if x29 < x28 then (if 0 ≤ x29 then (if x29 < (x27.length : Int) then (if 0 ≤ (rd x27 x29) then (if (rd x27 x29) < (x0.length : Int) then (impl_table_parts.l2 k x0 x3 x4 (Go.bits .or .u16 x6 (rd x0 (rd x27 x29))) x11 x12 x23 x24 x27 x28 (wrap64 (x29 + 1))) else (none)) else (none)) else (none)) else (none)) else (impl_table_parts.l1 k x0 x3 x4 x6 x11 x12 x23 (wrap64 (x24 + 1)))
end
def impl_table_parts.f (k : Nat) (l0 : List Int) : Option ((List (List Int))) := impl_table_parts.l0 k l0 (([] : List (List Int))) 0 (l0.length : Int) 0
theorem impl_table_parts.mono_l : ∀ k, (∀ y0 y1 y2 y3 y4, LeO (impl_table_parts.l0 k y0 y1 y2 y3 y4) (impl_table_parts.l0 (k + 1) y0 y1 y2 y3 y4)) ∧ (∀ y0 y1 y2 y3 y4 y5 y6 y7, LeO (impl_table_parts.l1 k y0 y1 y2 y3 y4 y5 y6 y7) (impl_table_parts.l1 (k + 1) y0 y1 y2 y3 y4 y5 y6 y7)) ∧ (∀ y0 y1 y2 y3 y4 y5 y6 y7 y8 y9 y10, LeO (impl_table_parts.l2 k y0 y1 y2 y3 y4 y5 y6 y7 y8 y9 y10) (impl_table_parts.l2 (k + 1) y0 y1 y2 y3 y4 y5 y6 y7 y8 y9 y10))
 | 0 => ⟨fun _ _ _ _ _ r h => by simp [impl_table_parts.l0] at h, fun _ _ _ _ _ _ _ _ r h => by simp [impl_table_parts.l1] at h, fun _ _ _ _ _ _ _ _ _ _ _ r h => by simp [impl_table_parts.l2] at h⟩
 | k + 1 => by
  obtain ⟨ih0, ih1, ih2⟩ := impl_table_parts.mono_l k
  refine ⟨?_, ?_, ?_⟩
  ·intro y0 y1 y2 y3 y4
   unfold impl_table_parts.l0
   repeat' first
   | (with_reducible exact ih0 _ _ _ _ _)
   | (with_reducible exact ih1 _ _ _ _ _ _ _ _)
   | (with_reducible exact ih2 _ _ _ _ _ _ _ _ _ _ _)
   | (with_reducible exact impl_listed.mono _ _)
   | (with_reducible exact LeO.refl _)
   | (with_reducible exact LeO.none _)
   | (with_reducible refine LeO.ite ?_ ?_)
   | (with_reducible refine LeO.bind ?_ (fun _ => ?_))
   | exact ih0 _ _ _ _ _
   | exact ih1 _ _ _ _ _ _ _ _
   | exact ih2 _ _ _ _ _ _ _ _ _ _ _
   | exact impl_listed.mono _ _
   | exact LeO.none _
   | refine LeO.ite ?_ ?_
   | refine LeO.bind ?_ (fun _ => ?_)
  ·intro y0 y1 y2 y3 y4 y5 y6 y7
   unfold impl_table_parts.l1
   repeat' first
   | (with_reducible exact ih0 _ _ _ _ _)
   | (with_reducible exact ih1 _ _ _ _ _ _ _ _)
   | (with_reducible exact ih2 _ _ _ _ _ _ _ _ _ _ _)
   | (with_reducible exact impl_listed.mono _ _)
   | (with_reducible exact LeO.refl _)
   | (with_reducible exact LeO.none _)
   | (with_reducible refine LeO.ite ?_ ?_)
   | (with_reducible refine LeO.bind ?_ (fun _ => ?_))
   | exact ih0 _ _ _ _ _
   | exact ih1 _ _ _ _ _ _ _ _
   | exact ih2 _ _ _ _ _ _ _ _ _ _ _
   | exact impl_listed.mono _ _
   | exact LeO.none _
   | refine LeO.ite ?_ ?_
   | refine LeO.bind ?_ (fun _ => ?_)
  ·intro y0 y1 y2 y3 y4 y5 y6 y7 y8 y9 y10
   unfold impl_table_parts.l2
   repeat' first
   | (with_reducible exact ih0 _ _ _ _ _)
   | (with_reducible exact ih1 _ _ _ _ _ _ _ _)
   | (with_reducible exact ih2 _ _ _ _ _ _ _ _ _ _ _)
   | (with_reducible exact impl_listed.mono _ _)
   | (with_reducible exact LeO.refl _)
   | (with_reducible exact LeO.none _)
   | (with_reducible refine LeO.ite ?_ ?_)
   | (with_reducible refine LeO.bind ?_ (fun _ => ?_))
   | exact ih0 _ _ _ _ _
   | exact ih1 _ _ _ _ _ _ _ _
   | exact ih2 _ _ _ _ _ _ _ _ _ _ _
   | exact impl_listed.mono _ _
   | exact LeO.none _
   | refine LeO.ite ?_ ?_
   | refine LeO.bind ?_ (fun _ => ?_)
theorem impl_table_parts.mono : ∀ a0 k, LeO (impl_table_parts.f k a0) (impl_table_parts.f (k + 1) a0) := by
 intro a0 k
 obtain ⟨ih0, ih1, ih2⟩ := impl_table_parts.mono_l k
 unfold impl_table_parts.f
 repeat' first
   | (with_reducible exact ih0 _ _ _ _ _)
   | (with_reducible exact ih1 _ _ _ _ _ _ _ _)
   | (with_reducible exact ih2 _ _ _ _ _ _ _ _ _ _ _)
   | (with_reducible exact impl_listed.mono _ _)
   | (with_reducible exact LeO.refl _)
   | (with_reducible exact LeO.none _)
   | (with_reducible refine LeO.ite ?_ ?_)
   | (with_reducible refine LeO.bind ?_ (fun _ => ?_))
   | exact ih0 _ _ _ _ _
   | exact ih1 _ _ _ _ _ _ _ _
   | exact ih2 _ _ _ _ _ _ _ _ _ _ _
   | exact impl_listed.mono _ _
   | exact LeO.none _
   | refine LeO.ite ?_ ?_
   | refine LeO.bind ?_ (fun _ => ?_)
set_option maxHeartbeats 8000000 in
set_option maxRecDepth 100000 in
theorem impl_table_parts.calls (k : Nat) (A0 : Option Addr) (c0 : Nat) (l0 : List Int) (r : List (List Int)) (w : World) (hG : Tab w) (hr0 : Kd.C (Kd.int .u16) w A0 l0.length l0) (hc0 : l0.length ≤ c0) (h : impl_table_parts.f k l0 = some r) :
  Calls Tryd.prog 62 #[.slice A0 l0.length c0] w fun e w' => ∃ v0_ : Value, e = .returned (v0_) ∧ Kd.S (Kd.slice 3 (Kd.int .i64)) 36 w' w.heap.size (fun _ => True) v0_ r ∧ Below w.heap.size w w' := by
 have HG := Aside0.mk hG
 clear hG
 have HR0 := Aside0.mk hr0
 have HC0 := Aside0.mk hc0
 clear hr0 hc0
 have HB := Aside0.mk (Below.refl w.heap.size w)
 have H : (impl_table_parts.l0 k l0 (([] : List (List Int))) 0 (l0.length : Int) 0) = some r := h
 clear h
 obtain ⟨y505, hy505⟩ : ∃ y_ : List (List Int), y_ = (([] : List (List Int))) := ⟨_, rfl⟩
 replace H : (impl_table_parts.l0 k l0 y505 0 (l0.length : Int) 0) = some r := by first | (rw [hy505]; with_reducible exact H) | (have H2_ := (Option.bind_some _ _).symm.trans H; rw [hy505]; with_reducible exact H2_) | (have H2_ := (Option.bind_some _ _).symm.trans H; with_reducible exact H2_) | with_reducible exact H | (rw [hy505]; exact H) | exact H
 have Ny505 := Aside0.mk hy505
 clear hy505
 have H' := Aside0.mk H
 clear H
 go_enter Tryd.func62, Tryd.ntmps62
 go_wp2_with (first | ((with_reducible refine gate_dst (N := 9) rfl ?_); refine Kd.S_lit (Kd.slice 3 (Kd.int .i64)) _ 36 ?hg (N := 9) ?hd (xs := ([] : List (List Int))) (inner := []) (ok := fun _ => True) (okp := fun _ => True) ?hr ?hp (fun _ hk => hk) trivial (Below.refl _ _) (Nat.le_refl _) (by simp) ?_; (case hd => rfl); (case hg => rfl); (case hr => first | (go_simp; done) | (go_simp; rfl)); (case hp => exact (Reps.none _ _)); intro v506 w2 ho3 hb hg_ hnew_; clear hg_ hnew_; (first | rw [← Ny505.out] at ho3 | (simp only [Int.reduceToNat] at ho3; rw [← Ny505.out] at ho3)); have n0_ := Aside0.mk (Kd.S_lower ho3 (qal hB_)); have n1_ := Aside0.mk (qak hB_ hb); clear HB; have HO507 := n0_; have HB := n1_; clear n0_ n1_; clear hb ho3))
 go_loopg [3, 4, 12] k (fun kq v3 v4 v12 w' => ∃ (x3_1 : List (List Int)) (x4_1 : Int) (x12_1 : Int), v4 = .int .u16 x4_1 ∧ v12 = .int .i64 x12_1 ∧ Aside0 (impl_table_parts.l0 kq l0 x3_1 x4_1 (l0.length : Int) x12_1 = some r) ∧ Aside0 (kq ≤ k) ∧ Aside0 (Kd.S (Kd.slice 3 (Kd.int .i64)) 36 w' w.heap.size (fun _ => True) v3 x3_1) ∧ Aside0 (Below w.heap.size w w'))
 case atStart => exact ⟨(y505), (0), (0), rS_, rS_, H', ⟨Nat.le_refl _⟩, ⟨by (with_reducible repeat (first | apply Kd.S_alloc | apply Kd.S_drewN | apply Kd.S_drew)); exact HO507.out⟩, ⟨by repeat (first | (with_reducible first | exact HB.out | apply qad | apply qaa | apply qac) | exact HB.out)⟩⟩
 case round =>
  clear H'
  obtain ⟨x3_1, x4_1, x12_1, rfl, rfl, HA, HK1, HO_3, HB⟩ := hrel
  cases gk with
  | zero => exact absurd HA.out (by simp [impl_table_parts.l0])
  | succ k1 =>
   have H := HA.out
   clear HA
   simp only [impl_table_parts.l0] at H
   by_cases c4 : x12_1 < (l0.length : Int)
   ·rw [if_pos c4] at H
    have c4b0 : decide (x12_1 < (l0.length : Int)) = true := decide_eq_true c4
    clear c4
    by_cases c5 : 0 ≤ x12_1
    ·rw [if_pos c5] at H
     have c5b0 := eq_true c5
     have c5b1 : decide (0 ≤ x12_1) = true := decide_eq_true c5
     clear c5
     obtain ⟨ji6, hji6⟩ : ∃ j_ : Int, (shr .u16 x4_1 x12_1) = j_ := ⟨_, rfl⟩
     replace H : (if (Go.bits .and .u16 (ji6) 1) = 1 then (impl_table_parts.l0 k1 l0 x3_1 x4_1 (l0.length : Int) (wrap64 (x12_1 + 1))) else (impl_table_parts.l1 k1 l0 x3_1 x4_1 (shl .u16 1 x12_1) (l0.length : Int) x12_1 (l0.length : Int) 0)) = some r := by first | (rw [hji6] at H; exact H) | (simp only [hji6] at H ⊢; exact H)
     have hji6_ : (x4_1 / 2 ^ min x12_1.toNat 16) = ji6 := hji6
     have hji6z : x12_1 ≤ 16 → (x4_1 / 2 ^ x12_1.toNat) = ji6 := shr_small hji6
     by_cases c7 : (Go.bits .and .u16 (ji6) 1) = 1
     ·rw [if_pos c7] at H
      have c7b0 : ((Go.bits .and .u16 (ji6) 1) == 1) = true := beq_iff_eq.mpr c7
      have c7b1 : ((Go.bits .and .u16 (ji6) 1) != 1) = false := bne_eq_false_iff_eq.mpr c7
      clear c7
      have H' := Aside0.mk H
      clear H
      go_wp2
      go_roundg k1
      case measure => have := HK1.out; omega
      case rel => exact ⟨(x3_1), (x4_1), (wrap64 (x12_1 + 1)), rS_, rS_, H', ⟨by have := HK1.out; omega⟩, ⟨by (with_reducible repeat (first | apply Kd.S_alloc | apply Kd.S_drewN | apply Kd.S_drew)); exact HO_3.out⟩, ⟨by repeat (first | (with_reducible first | exact HB.out | apply qad | apply qaa | apply qac) | exact HB.out)⟩⟩
     ·rw [if_neg c7] at H
      have c7b0 : ((Go.bits .and .u16 (ji6) 1) == 1) = false := beq_eq_false_iff_ne.mpr c7
      have c7b1 : ((Go.bits .and .u16 (ji6) 1) != 1) = true := bne_iff_ne.mpr c7
      have c8b0 := eq_true (oD_ : 0 ≤ x12_1)
      obtain ⟨ji9, hji9⟩ : ∃ j_ : Int, (shl .u16 1 x12_1) = j_ := ⟨_, rfl⟩
      replace H : (impl_table_parts.l1 k1 l0 x3_1 x4_1 ji9 (l0.length : Int) x12_1 (l0.length : Int) 0) = some r := by first | (rw [hji9] at H; exact H) | (simp only [hji9] at H ⊢; exact H)
      have hji9_ : (IntKind.u16.wrap (1 * 2 ^ min x12_1.toNat 16)) = ji9 := hji9
      have hji9z : x12_1 ≤ 16 → (IntKind.u16.wrap (1 * 2 ^ x12_1.toNat)) = ji9 := shl_small hji9
      have hji9u : (IntKind.u16.wrap (2 ^ min x12_1.toNat 16)) = ji9 := by have h_ := hji9_; rw [Int.one_mul] at h_; exact h_
      have hji9v : x12_1 ≤ 16 → (IntKind.u16.wrap (2 ^ x12_1.toNat)) = ji9 := fun hle_ => by have h_ := hji9z hle_; rw [Int.one_mul] at h_; exact h_
      have H' := Aside0.mk H
      clear H
      go_wp2
      go_loopg [6, 24] k1 (fun kq v6 v24 w' => ∃ (x6_2 : Int) (x24_2 : Int), v6 = .int .u16 x6_2 ∧ v24 = .int .i64 x24_2 ∧ Aside0 (impl_table_parts.l1 kq l0 x3_1 x4_1 x6_2 (l0.length : Int) x12_1 (l0.length : Int) x24_2 = some r) ∧ Aside0 (kq ≤ k1) ∧ Aside0 (Kd.S (Kd.slice 3 (Kd.int .i64)) 36 w' w.heap.size (fun _ => True) u3 x3_1) ∧ Aside0 (Below w.heap.size w w'))
      case atStart => exact ⟨(ji9), (0), (by first | rfl | (simp; done) | (simp only [← hji9] <;> (first | rfl | simp)) | (simp [*]; done)), rS_, H', ⟨Nat.le_refl _⟩, ⟨by (with_reducible repeat (first | apply Kd.S_alloc | apply Kd.S_drewN | apply Kd.S_drew)); exact HO_3.out⟩, ⟨by repeat (first | (with_reducible first | exact HB.out | apply qad | apply qaa | apply qac) | exact HB.out)⟩⟩
      case round =>
       clear H'
       obtain ⟨x6_2, x24_2, rfl, rfl, HA, HK2, HO_3, HB⟩ := hrel
       cases gk with
       | zero => exact absurd HA.out (by simp [impl_table_parts.l1])
       | succ k2 =>
        have H := HA.out
        clear HA
        simp only [impl_table_parts.l1] at H
        by_cases c10 : x24_2 < (l0.length : Int)
        ·rw [if_pos c10] at H
         have c10b0 : decide (x24_2 < (l0.length : Int)) = true := decide_eq_true c10
         clear c10
         replace H := Option.bind_eq_some_iff.mp H
         obtain ⟨t514, A110, H⟩ := H
         replace H : (impl_table_parts.l2 k2 l0 x3_1 x4_1 x6_2 (l0.length : Int) x12_1 (l0.length : Int) x24_2 t514 (t514.length : Int) 0) = some r := H
         have A11 := Aside0.mk A110
         clear A110
         have H' := Aside0.mk H
         clear H
         go_wp2_with (first | ((with_reducible refine qao (f := 55) rfl ?_); refine goesL_ (some 27) rfl rfl Tryd.func55 (by kernel_rfl) rfl #[.int .u16 x6_2] rfl mT_ ?_; (with_reducible refine (impl_listed.calls k2 x6_2 t514 _ ?sideG A11.out).mono ?_); (case sideG => first | exact HG.out | exact Tab.below HG.out hB_); rintro e w12 ⟨v515, rfl, ho0, hb⟩; refine ⟨_, rfl, ?_⟩; have n0_ := Aside0.mk (Kd.S_elder' (uS_ HO_3.out) (Kd.R_base ho0) hb); have n1_ := Aside0.mk (Kd.R_lower ho0 (qal hB_)); have n2_ := Aside0.mk (qak hB_ hb); clear HO_3; clear HB; have HO_3 := n0_; have HO516 := n1_; have HB := n2_; clear n0_ n1_ n2_; (try clear hb); (try clear hb2); (try clear hk); (try clear hi); (try clear ho0); obtain ⟨Ao13, co13, eo13⟩ := Kd.R_slice HO516.out; subst eo13))
         go_loopg [6, 29] k2 (fun kq v6 v29 w' => ∃ (x6_3 : Int) (x29_3 : Int), v6 = .int .u16 x6_3 ∧ v29 = .int .i64 x29_3 ∧ Aside0 (impl_table_parts.l2 kq l0 x3_1 x4_1 x6_3 (l0.length : Int) x12_1 (l0.length : Int) x24_2 t514 (t514.length : Int) x29_3 = some r) ∧ Aside0 (kq ≤ k2) ∧ Aside0 (Kd.S (Kd.slice 3 (Kd.int .i64)) 36 w' w.heap.size (fun k_ => some k_ ≠ ((.slice Ao13 t514.length co13) : Value).ownBlock) u3 x3_1) ∧ Aside0 (Kd.R (Kd.int .i64) 3 w' w.heap.size (fun _ => True) (.slice Ao13 t514.length co13) t514) ∧ Aside0 (Below w.heap.size w w'))
         case atStart => exact ⟨(x6_2), (0), rS_, rS_, H', ⟨Nat.le_refl _⟩, ⟨by (with_reducible repeat (first | apply Kd.S_alloc | apply Kd.S_drewN | apply Kd.S_drew)); exact Kd.S_mono HO_3.out (fun _ hk => hk.2)⟩, ⟨by (with_reducible repeat (first | apply Kd.qat | apply Kd.qas | apply Kd.R_drew)); exact HO516.out⟩, ⟨by repeat (first | (with_reducible first | exact HB.out | apply qad | apply qaa | apply qac) | exact HB.out)⟩⟩
         case round =>
          clear H'
          obtain ⟨x6_3, x29_3, rfl, rfl, HA, HK3, HO_3, HO_27, HB⟩ := hrel
          cases gk with
          | zero => exact absurd HA.out (by simp [impl_table_parts.l2])
          | succ k3 =>
           have H := HA.out
           clear HA
           simp only [impl_table_parts.l2] at H
           by_cases c14 : x29_3 < (t514.length : Int)
           ·rw [if_pos c14] at H
            have c14b0 : decide (x29_3 < (t514.length : Int)) = true := decide_eq_true c14
            clear c14
            by_cases c15 : 0 ≤ x29_3
            ·rw [if_pos c15] at H
             have c15b0 : decide (0 ≤ x29_3) = true := decide_eq_true c15
             clear c15
             by_cases c16 : x29_3 < (t514.length : Int)
             ·rw [if_pos c16] at H
              have c16b0 : decide (x29_3 < (t514.length : Int)) = true := decide_eq_true c16
              clear c16
              by_cases c17 : 0 ≤ (rd t514 x29_3)
              ·rw [if_pos c17] at H
               have c17b0 : decide (0 ≤ (rd t514 x29_3)) = true := decide_eq_true c17
               clear c17
               by_cases c18 : (rd t514 x29_3) < (l0.length : Int)
               ·rw [if_pos c18] at H
                have c18b0 : decide ((rd t514 x29_3) < (l0.length : Int)) = true := decide_eq_true c18
                clear c18
                have H' := Aside0.mk H
                clear H
                have p517 : 0 ≤ (x29_3 : Int) := oD_
                have q517 : x29_3 < (t514.length : Int) := oD_
                obtain ⟨ad517, e517, hx517_0⟩ := Kd.at_int (Kd.R_reads' HO_27.out).2.2 x29_3 p517 q517
                cases e517
                replace p517 := eq_true p517
                replace q517 := eq_true q517
                have p518 : 0 ≤ ((rd t514 x29_3) : Int) := oD_
                have q518 : (rd t514 x29_3) < (l0.length : Int) := oD_
                obtain ⟨ad518, e518, hx518_0⟩ := Kd.at_int HR0.out (rd t514 x29_3) p518 q518
                cases e518
                (try (replace hx518_0 := (HB.out.cell (World.block_lt_of_cell? w _ hx518_0)).trans hx518_0))
                replace p518 := eq_true p518
                replace q518 := eq_true q518
                go_wp2
                go_roundg k3
                case measure => have := HK1.out; have := HK2.out; have := HK3.out; omega
                case rel => exact ⟨(Go.bits .or .u16 x6_3 (rd l0 (rd t514 x29_3))), (wrap64 (x29_3 + 1)), rS_, rS_, H', ⟨by have := HK1.out; have := HK2.out; have := HK3.out; omega⟩, ⟨by (with_reducible repeat (first | apply Kd.S_alloc | apply Kd.S_drewN | apply Kd.S_drew)); exact HO_3.out⟩, ⟨by (with_reducible repeat (first | apply Kd.qat | apply Kd.qas | apply Kd.R_drew)); exact HO_27.out⟩, ⟨by repeat (first | (with_reducible first | exact HB.out | apply qad | apply qaa | apply qac) | exact HB.out)⟩⟩
               ·rw [if_neg c18] at H
                exact absurd H (by simp)
              ·rw [if_neg c17] at H
               exact absurd H (by simp)
             ·rw [if_neg c16] at H
              exact absurd H (by simp)
            ·rw [if_neg c15] at H
             exact absurd H (by simp)
           ·rw [if_neg c14] at H
            have c14b0 : decide (x29_3 < (t514.length : Int)) = false := decide_eq_false c14
            clear c14
            have H' := Aside0.mk H
            clear H
            go_wp2
            go_roundg k3
            case measure => have := HK1.out; have := HK2.out; have := HK3.out; omega
            case rel => exact ⟨(x6_3), (wrap64 (x24_2 + 1)), rS_, rS_, H', ⟨by have := HK1.out; have := HK2.out; have := HK3.out; omega⟩, ⟨by (with_reducible repeat (first | apply Kd.S_alloc | apply Kd.S_drewN | apply Kd.S_drew)); exact Kd.S_mono HO_3.out (fun _ hk => trivial)⟩, ⟨by repeat (first | (with_reducible first | exact HB.out | apply qad | apply qaa | apply qac) | exact HB.out)⟩⟩
        ·rw [if_neg c10] at H
         have c10b0 : decide (x24_2 < (l0.length : Int)) = false := decide_eq_false c10
         clear c10
         replace H := Option.bind_eq_some_iff.mp H
         obtain ⟨t508, A190, H⟩ := H
         replace H : (if x3_1.length < 5864062014805 then (impl_table_parts.l0 k2 l0 (x3_1 ++ [t508]) (Go.bits .or .u16 x4_1 x6_2) (l0.length : Int) (wrap64 (x12_1 + 1))) else (none)) = some r := H
         have A19 := Aside0.mk A190
         clear A190
         by_cases c20 : x3_1.length < 5864062014805
         ·rw [if_pos c20] at H
          have LMc20 := Aside0.mk c20
          clear c20
          obtain ⟨y511, hy511⟩ : ∃ y_ : List (List Int), y_ = (x3_1 ++ [t508]) := ⟨_, rfl⟩
          replace H : (impl_table_parts.l0 k2 l0 y511 (Go.bits .or .u16 x4_1 x6_2) (l0.length : Int) (wrap64 (x12_1 + 1))) = some r := by first | (rw [hy511]; with_reducible exact H) | (have H2_ := (Option.bind_some _ _).symm.trans H; rw [hy511]; with_reducible exact H2_) | (have H2_ := (Option.bind_some _ _).symm.trans H; with_reducible exact H2_) | with_reducible exact H | (rw [hy511]; exact H) | exact H
          have Ny511 := Aside0.mk hy511
          clear hy511
          have H' := Aside0.mk H
          clear H
          go_wp2_with (first | ((with_reducible refine qao (f := 55) rfl ?_); refine goesL_ (some 46) rfl rfl Tryd.func55 (by kernel_rfl) rfl #[.int .u16 x6_2] rfl mT_ ?_; (with_reducible refine (impl_listed.calls k2 x6_2 t508 _ ?sideG A19.out).mono ?_); (case sideG => first | exact HG.out | exact Tab.below HG.out hB_); rintro e w21 ⟨v509, rfl, ho0, hb⟩; refine ⟨_, rfl, ?_⟩; have n0_ := Aside0.mk (Kd.S_elder' (uS_ HO_3.out) (Kd.R_base ho0) hb); have n1_ := Aside0.mk (Kd.R_lower ho0 (qal hB_)); have n2_ := Aside0.mk (qak hB_ hb); clear HO_3; clear HB; have HO_3 := n0_; have HO510 := n1_; have HB := n2_; clear n0_ n1_ n2_; (try clear hb); (try clear hb2); (try clear hk); (try clear hi); (try clear ho0); obtain ⟨Ao23, co23, eo23⟩ := Kd.R_slice HO510.out; subst eo23) | ((with_reducible refine gate_builtin (b := .append) (xs := #[.tmp 44, .tmp 47]) rfl ?_); at_builtin; refine Kd.S_append (Kd.slice 3 (Kd.int .i64)) (w0 := w) w.heap.size rfl (.tmp 44) (.tmp 47) 76 36 (.slice none 0 0) 24 rfl Tryd.underlying76 info36 rfl (by decide) (by omega) u3 x3_1 t508 [.slice Ao23 t508.length co23] (fun _ => True) (fun k_ => some k_ = (.slice Ao23 t508.length co23 : Value).ownBlock) rfl rfl ?aP (fun k_ hk_ => ((Kd.R_mono (ok' := fun k_ => ((fun _ => True)) k_ ∧ some k_ ≠ (u3 : Value).ownBlock) (Kd.R_apart' (HO510.out) (Kd.S_typed HO_3.out) (by decide)) (fun k_ hk => ⟨trivial, hk.2⟩))).1 k_ hk_.symm) ?aF ?aO ?aB ?aS ?aL ?_; (case aP => exact Kd.M_row (Kd.R_mono (Kd.R_tight rfl (Kd.R_mono (ok' := fun k_ => ((fun _ => True)) k_ ∧ some k_ ≠ (u3 : Value).ownBlock) (Kd.R_apart' (HO510.out) (Kd.S_typed HO_3.out) (by decide)) (fun k_ hk => ⟨trivial, hk.2⟩))) (fun _ h_ => h_))); (case aB => exact hB_); (case aF => exact (fun _ _ => trivial)); (case aO => exact (by (with_reducible repeat (first | apply Kd.S_alloc | apply Kd.S_drewN | apply Kd.S_drew)); exact Kd.S_mono HO_3.out (fun k_ hk => ⟨trivial, fun e_ => hk.2 e_⟩))); (case aS => exact (qal hB_)); (case aL => have := LMc20.out; omega); intro v512 w22 ho hb hg hat; rw [← Ny511.out] at ho; have n0_ := Aside0.mk (hb); have n1_ := Aside0.mk (ho); clear HB; clear HO_3; clear HO510; have HB := n0_; have HO513 := n1_; clear n0_ n1_; clear ho hb hg hat))
          go_roundg k2
          case measure => have := HK1.out; have := HK2.out; omega
          case rel => exact ⟨(y511), (Go.bits .or .u16 x4_1 x6_2), (wrap64 (x12_1 + 1)), rS_, rS_, H', ⟨by have := HK1.out; have := HK2.out; omega⟩, ⟨by (with_reducible repeat (first | apply Kd.S_alloc | apply Kd.S_drewN | apply Kd.S_drew)); exact HO513.out⟩, ⟨by repeat (first | (with_reducible first | exact HB.out | apply qad | apply qaa | apply qac) | exact HB.out)⟩⟩
         ·rw [if_neg c20] at H
          exact absurd H (by simp)
    ·rw [if_neg c5] at H
     exact absurd H (by simp)
   ·rw [if_neg c4] at H
    have c4b0 : decide (x12_1 < (l0.length : Int)) = false := decide_eq_false c4
    clear c4
    obtain rfl := Option.some.inj H
    go_wp2
    go_ret
    exact ⟨_, by first | rfl | (simp [errW_none, errW_some] <;> rfl) | (simp [*, errW_none, errW_some] <;> rfl), by (with_reducible repeat (first | apply Kd.S_alloc | apply Kd.S_drewN | apply Kd.S_drew)); exact HO_3.out, by repeat (first | (with_reducible first | exact HB.out | apply qad | apply qaa | apply qac) | exact HB.out)⟩

end Go.Proofs.YtedfcbbklhfgcaaDoor.Q
namespace Go.Proofs.YtedfcbbklhfgcaaDoor.Q
open Go.RowKit Go.Proofs.YtedfcbbklhfgcaaDoorW.PrintWords Go.Proofs.YtedfcbbklhfgcaaDoorW.PrintLast Go.Proofs.YtedfcbbklhfgcaaDoorW.PrintMore
attribute [local go_sem] max2_int min2_int max_two min_two max_three min_three max_four min_four   -- for this text's walks alone
set_option linter.unusedVariables false
set_option linter.unusedSimpArgs false

/-! ### impl_table_apart: function 44 -/
mutual
def impl_table_apart.l0 : Nat → List Int → List Int → List (List Int) → Int → Int → Option (List Int × Bool)
 | 0, _, _, _, _, _ => none
 | k + 1, x0, x4, x16, x17, x18 => if x18 < x17 then (if 0 ≤ x18 then (if x18 < (x16.length : Int) then (if 0 < ((rd_L6 x16 x18).length : Int) then ((impl_table_distances.f k x0 (rd (rd_L6 x16 x18) 0)).bind fun t527 => (impl_table_apart.l1 k x0 x4 x16 x17 x18 t527 (t527.length : Int) 0)) else (none)) else (none)) else (none)) else (impl_table_apart.l2 k x0 x4 (x0.length : Int) 0)
def impl_table_apart.l1 : Nat → List Int → List Int → List (List Int) → Int → Int → List Int → Int → Int → Option (List Int × Bool)
 | 0, _, _, _, _, _, _, _, _ => none
 | k + 1, x0, x4, x16, x17, x18, x26, x27, x28 => if x28 < x27 then (if 0 ≤ x28 then (if x28 < (x26.length : Int) then (if (rd x26 x28) ≥ 0 then (if x28 < (x4.length : Int) then (impl_table_apart.l1 k x0 (x4.set (x28 : Int).toNat (Int.tmod (rd x26 x28) 2)) x16 x17 x18 x26 x27 (wrap64 (x28 + 1))) else (none)) else (impl_table_apart.l1 k x0 x4 x16 x17 x18 x26 x27 (wrap64 (x28 + 1)))) else (none)) else (none)) else (impl_table_apart.l0 k x0 x4 x16 x17 (wrap64 (x18 + 1)))
def impl_table_apart.l2 : Nat → List Int → List Int → Int → Int → Option (List Int × Bool)
 | 0, _, _, _, _ => none
 | k + 1, x0, x4, x43, x44 => if x44 < x43 then (if 0 ≤ x44 then (if x44 < (x0.length : Int) then ((impl_listed.f k (rd x0 x44)).bind fun t533 => (impl_table_apart.l3 k x0 x4 x44 x43 x44 t533 (t533.length : Int) 0)) else (none)) else (none)) else (some (x4, true))
def impl_table_apart.l3 : Nat → List Int → List Int → Int → Int → Int → List Int → Int → Int → Option (List Int × Bool)
 | 0, _, _, _, _, _, _, _, _ => none
 | k + 1, x0, x4, x9, x43, x44, x51, x52, x53 => if x53 < x52 then (if 0 ≤ x53 then (if x53 < (x51.length : Int) then (if 0 ≤ x9 then (if x9 < (x4.length : Int) then (if 0 ≤ (rd x51 x53) then (if (rd x51 x53) < (x4.length : Int) then (if (rd x4 x9) = (rd x4 (rd x51 x53)) then (some (([] : List Int), false)) else (impl_table_apart.l3 k x0 x4 x9 x43 x44 x51 x52 (wrap64 (x53 + 1)))) else (none)) else (none)) else (none)) else (none)) else (none)) else (none)) else (impl_table_apart.l2 k x0 x4 x43 (wrap64 (x44 + 1)))
end
def impl_table_apart.f (k : Nat) (l0 : List Int) : Option (List Int × Bool) := if 0 ≤ (l0.length : Int) then (if ((l0.length : Int) : Int).toNat ≤ 35184372088832 then ((impl_table_parts.f k l0).bind fun t522 => (impl_table_apart.l0 k l0 (List.replicate ((l0.length : Int) : Int).toNat 0) t522 (t522.length : Int) 0)) else (none)) else (none)
theorem impl_table_apart.mono_l : ∀ k, (∀ y0 y1 y2 y3 y4, LeO (impl_table_apart.l0 k y0 y1 y2 y3 y4) (impl_table_apart.l0 (k + 1) y0 y1 y2 y3 y4)) ∧ (∀ y0 y1 y2 y3 y4 y5 y6 y7, LeO (impl_table_apart.l1 k y0 y1 y2 y3 y4 y5 y6 y7) (impl_table_apart.l1 (k + 1) y0 y1 y2 y3 y4 y5 y6 y7)) ∧ (∀ y0 y1 y2 y3, LeO (impl_table_apart.l2 k y0 y1 y2 y3) (impl_table_apart.l2 (k + 1) y0 y1 y2 y3)) ∧ (∀ y0 y1 y2 y3 y4 y5 y6 y7, LeO (impl_table_apart.l3 k y0 y1 y2 y3 y4 y5 y6 y7) (impl_table_apart.l3 (k + 1) y0 y1 y2 y3 y4 y5 y6 y7))
 | 0 => ⟨fun _ _ _ _ _ r h => by simp [impl_table_apart.l0] at h, fun _ _ _ _ _ _ _ _ r h => by simp [impl_table_apart.l1] at h, fun _ _ _ _ r h => by simp [impl_table_apart.l2] at h, fun _ _ _ _ _ _ _ _ r h => by simp [impl_table_apart.l3] at h⟩
 | k + 1 => by
  obtain ⟨ih0, ih1, ih2, ih3⟩ := impl_table_apart.mono_l k
  refine ⟨?_, ?_, ?_, ?_⟩
  ·intro y0 y1 y2 y3 y4
   unfold impl_table_apart.l0
   repeat' first
   | (with_reducible exact ih0 _ _ _ _ _)
   | (with_reducible exact ih1 _ _ _ _ _ _ _ _)
   | (with_reducible exact ih2 _ _ _ _)
   | (with_reducible exact ih3 _ _ _ _ _ _ _ _)
   | (with_reducible exact impl_listed.mono _ _)
   | (with_reducible exact impl_table_distances.mono _ _ _)
   | (with_reducible exact impl_table_parts.mono _ _)
   | (with_reducible exact LeO.refl _)
   | (with_reducible exact LeO.none _)
   | (with_reducible refine LeO.ite ?_ ?_)
   | (with_reducible refine LeO.bind ?_ (fun _ => ?_))
   | exact ih0 _ _ _ _ _
   | exact ih1 _ _ _ _ _ _ _ _
   | exact ih2 _ _ _ _
   | exact ih3 _ _ _ _ _ _ _ _
   | exact impl_listed.mono _ _
   | exact impl_table_distances.mono _ _ _
   | exact impl_table_parts.mono _ _
   | exact LeO.none _
   | refine LeO.ite ?_ ?_
   | refine LeO.bind ?_ (fun _ => ?_)
  ·intro y0 y1 y2 y3 y4 y5 y6 y7
   unfold impl_table_apart.l1
   repeat' first
   | (with_reducible exact ih0 _ _ _ _ _)
   | (with_reducible exact ih1 _ _ _ _ _ _ _ _)
   | (with_reducible exact ih2 _ _ _ _)
   | (with_reducible exact ih3 _ _ _ _ _ _ _ _)
   | (with_reducible exact impl_listed.mono _ _)
   | (with_reducible exact impl_table_distances.mono _ _ _)
   | (with_reducible exact impl_table_parts.mono _ _)
   | (with_reducible exact LeO.refl _)
   | (with_reducible exact LeO.none _)
   | (with_reducible refine LeO.ite ?_ ?_)
   | (with_reducible refine LeO.bind ?_ (fun _ => ?_))
   | exact ih0 _ _ _ _ _
   | exact ih1 _ _ _ _ _ _ _ _
   | exact ih2 _ _ _ _
   | exact ih3 _ _ _ _ _ _ _ _
   | exact impl_listed.mono _ _
   | exact impl_table_distances.mono _ _ _
   | exact impl_table_parts.mono _ _
   | exact LeO.none _
   | refine LeO.ite ?_ ?_
   | refine LeO.bind ?_ (fun _ => ?_)
  ·intro y0 y1 y2 y3
   unfold impl_table_apart.l2
   repeat' first
   | (with_reducible exact ih0 _ _ _ _ _)
   | (with_reducible exact ih1 _ _ _ _ _ _ _ _)
   | (with_reducible exact ih2 _ _ _ _)
   | (with_reducible exact ih3 _ _ _ _ _ _ _ _)
   | (with_reducible exact impl_listed.mono _ _)
   | (with_reducible exact impl_table_distances.mono _ _ _)
   | (with_reducible exact impl_table_parts.mono _ _)
   | (with_reducible exact LeO.refl _)
   | (with_reducible exact LeO.none _)
   | (with_reducible refine LeO.ite ?_ ?_)
   | (with_reducible refine LeO.bind ?_ (fun _ => ?_))
   | exact ih0 _ _ _ _ _
   | exact ih1 _ _ _ _ _ _ _ _
   | exact ih2 _ _ _ _
   | exact ih3 _ _ _ _ _ _ _ _
   | exact impl_listed.mono _ _
   | exact impl_table_distances.mono _ _ _
   | exact impl_table_parts.mono _ _
   | exact LeO.none _
   | refine LeO.ite ?_ ?_
   | refine LeO.bind ?_ (fun _ => ?_)
  ·intro y0 y1 y2 y3 y4 y5 y6 y7
   unfold impl_table_apart.l3
   repeat' first
   | (with_reducible exact ih0 _ _ _ _ _)
   | (with_reducible exact ih1 _ _ _ _ _ _ _ _)
   | (with_reducible exact ih2 _ _ _ _)
   | (with_reducible exact ih3 _ _ _ _ _ _ _ _)
   | (with_reducible exact impl_listed.mono _ _)
   | (with_reducible exact impl_table_distances.mono _ _ _)
   | (with_reducible exact impl_table_parts.mono _ _)
   | (with_reducible exact LeO.refl _)
   | (with_reducible exact LeO.none _)
   | (with_reducible refine LeO.ite ?_ ?_)
   | (with_reducible refine LeO.bind ?_ (fun _ => ?_))
   | exact ih0 _ _ _ _ _
   | exact ih1 _ _ _ _ _ _ _ _
   | exact ih2 _ _ _ _
   | exact ih3 _ _ _ _ _ _ _ _
   | exact impl_listed.mono _ _
   | exact impl_table_distances.mono _ _ _
   | exact impl_table_parts.mono _ _
   | exact LeO.none _
   | refine LeO.ite ?_ ?_
   | refine LeO.bind ?_ (fun _ => ?_)
theorem impl_table_apart.mono : ∀ a0 k, LeO (impl_table_apart.f k a0) (impl_table_apart.f (k + 1) a0) := by
 intro a0 k
 obtain ⟨ih0, ih1, ih2, ih3⟩ := impl_table_apart.mono_l k
 unfold impl_table_apart.f
 repeat' first
   | (with_reducible exact ih0 _ _ _ _ _)
   | (with_reducible exact ih1 _ _ _ _ _ _ _ _)
   | (with_reducible exact ih2 _ _ _ _)
   | (with_reducible exact ih3 _ _ _ _ _ _ _ _)
   | (with_reducible exact impl_listed.mono _ _)
   | (with_reducible exact impl_table_distances.mono _ _ _)
   | (with_reducible exact impl_table_parts.mono _ _)
   | (with_reducible exact LeO.refl _)
   | (with_reducible exact LeO.none _)
   | (with_reducible refine LeO.ite ?_ ?_)
   | (with_reducible refine LeO.bind ?_ (fun _ => ?_))
   | exact ih0 _ _ _ _ _
   | exact ih1 _ _ _ _ _ _ _ _
   | exact ih2 _ _ _ _
   | exact ih3 _ _ _ _ _ _ _ _
   | exact impl_listed.mono _ _
   | exact impl_table_distances.mono _ _ _
   | exact impl_table_parts.mono _ _
   | exact LeO.none _
   | refine LeO.ite ?_ ?_
   | refine LeO.bind ?_ (fun _ => ?_)
set_option maxHeartbeats 8000000 in
set_option maxRecDepth 100000 in
theorem impl_table_apart.calls (k : Nat) (A0 : Option Addr) (c0 : Nat) (l0 : List Int) (r1 : List Int) (r2 : Bool) (w : World) (hG : Tab w) (hr0 : Kd.C (Kd.int .u16) w A0 l0.length l0) (hc0 : l0.length ≤ c0) (h : impl_table_apart.f k l0 = some (r1, r2)) :
  Calls Tryd.prog 44 #[.slice A0 l0.length c0] w fun e w' => ∃ v0_ : Value, e = .returned (.tuple #[v0_, .bool r2]) ∧ Kd.R (Kd.int .i64) 3 w' w.heap.size (fun _ => True) v0_ r1 ∧ Below w.heap.size w w' := by
 have HG := Aside0.mk hG
 clear hG
 have HR0 := Aside0.mk hr0
 have HC0 := Aside0.mk hc0
 clear hr0 hc0
 have HB := Aside0.mk (Below.refl w.heap.size w)
 have H : (if 0 ≤ (l0.length : Int) then (if ((l0.length : Int) : Int).toNat ≤ 35184372088832 then ((impl_table_parts.f k l0).bind fun t522 => (impl_table_apart.l0 k l0 (List.replicate ((l0.length : Int) : Int).toNat 0) t522 (t522.length : Int) 0)) else (none)) else (none)) = some (r1, r2) := h
 clear h
 by_cases c2 : 0 ≤ (l0.length : Int)
 ·rw [if_pos c2] at H
  have c2b0 := eq_true c2
  have c2b1 : decide (0 ≤ (l0.length : Int)) = true := decide_eq_true c2
  clear c2
  by_cases c3 : ((l0.length : Int) : Int).toNat ≤ 35184372088832
  ·rw [if_pos c3] at H
   have c3b0 := eq_true c3
   have c3b1 : decide (((l0.length : Int) : Int).toNat ≤ 35184372088832) = true := decide_eq_true c3
   clear c3
   obtain ⟨y519, hy519⟩ : ∃ y_ : List Int, y_ = (List.replicate ((l0.length : Int) : Int).toNat 0) := ⟨_, rfl⟩
   replace H : ((impl_table_parts.f k l0).bind fun t522 => (impl_table_apart.l0 k l0 y519 t522 (t522.length : Int) 0)) = some (r1, r2) := by first | (rw [hy519]; with_reducible exact H) | (have H2_ := (Option.bind_some _ _).symm.trans H; rw [hy519]; with_reducible exact H2_) | (have H2_ := (Option.bind_some _ _).symm.trans H; with_reducible exact H2_) | with_reducible exact H | (rw [hy519]; exact H) | exact H
   have Ny519 := Aside0.mk hy519
   clear hy519
   replace H := Option.bind_eq_some_iff.mp H
   obtain ⟨t522, A40, H⟩ := H
   replace H : (impl_table_apart.l0 k l0 y519 t522 (t522.length : Int) 0) = some (r1, r2) := H
   have A4 := Aside0.mk A40
   clear A40
   have H' := Aside0.mk H
   clear H
   go_enter Tryd.func44, Tryd.ntmps44
   go_wp2_with (first | ((with_reducible refine gate_dst (N := 14) rfl ?_); refine Kd.R_make (Kd.int .i64) _ 3 rfl (N := 14) rfl 36 _ _ rfl (l0.length : Int) rfl rfl Tryd.underlying36 (.int .i64 0) 8 info3 rfl (by decide) (by omega) 0 (ok := fun _ => True) (okp := fun _ => True) rfl (fun _ hk => hk) trivial (oD_) (Nat.le_trans (Nat.mul_le_mul_right _ (oD_ : (l0.length : Int).toNat ≤ 35184372088832)) (by omega)) (Below.refl _ _) (Nat.le_refl _) ?_; intro v520 w5 ho6 hb hg_ hnew_; clear hg_ hnew_; (first | rw [← Ny519.out] at ho6 | (simp only [Int.reduceToNat] at ho6; rw [← Ny519.out] at ho6)); have n0_ := Aside0.mk (Kd.R_lower ho6 (qal hB_)); have n1_ := Aside0.mk (qak hB_ hb); clear HB; have HO521 := n0_; have HB := n1_; clear n0_ n1_; clear hb ho6) | (go_at_call 62; (with_reducible refine (impl_table_parts.calls k _ _ l0 t522 _ ?sideG ?side1 ?side2 A4.out).mono ?_); (case sideG => first | exact HG.out | exact Tab.below HG.out hB_); (case side1 => repeat (first | exact (Kd.C_below HR0.out HB.out) | (with_reducible refine Kd.C_alloc ?_ _) | (with_reducible refine Kd.C_drewN ?_ _) | (with_reducible refine Kd.C_drew ?_))); (case side2 => exact HC0.out); rintro e w7 ⟨v523, rfl, ho0, hb⟩; have n0_ := Aside0.mk (Kd.R_below (uR_ HO521.out) hb); have n1_ := Aside0.mk (Kd.S_lower (Kd.S_new' ho0 (Kd.R_lt (uR_ HO521.out))) (qal hB_)); have n2_ := Aside0.mk (qak hB_ hb); clear HO521; clear HB; have HO521 := n0_; have HO524 := n1_; have HB := n2_; clear n0_ n1_ n2_; (try clear hb); (try clear hb2); (try clear hk); (try clear hi); (try clear ho0); obtain ⟨Ao8, co8, eo8⟩ := Kd.S_slice HO524.out; subst eo8))
   repeat (go_quiet (first | ((with_reducible refine gate_dst (N := 14) rfl ?_); refine Kd.R_make (Kd.int .i64) _ 3 rfl (N := 14) rfl 36 _ _ rfl (l0.length : Int) rfl rfl Tryd.underlying36 (.int .i64 0) 8 info3 rfl (by decide) (by omega) 0 (ok := fun _ => True) (okp := fun _ => True) rfl (fun _ hk => hk) trivial (oD_) (Nat.le_trans (Nat.mul_le_mul_right _ (oD_ : (l0.length : Int).toNat ≤ 35184372088832)) (by omega)) (Below.refl _ _) (Nat.le_refl _) ?_; intro v520 w5 ho6 hb hg_ hnew_; clear hg_ hnew_; (first | rw [← Ny519.out] at ho6 | (simp only [Int.reduceToNat] at ho6; rw [← Ny519.out] at ho6)); have n0_ := Aside0.mk (Kd.R_lower ho6 (qal hB_)); have n1_ := Aside0.mk (qak hB_ hb); clear HB; have HO521 := n0_; have HB := n1_; clear n0_ n1_; clear hb ho6) | (go_at_call 62; (with_reducible refine (impl_table_parts.calls k _ _ l0 t522 _ ?sideG ?side1 ?side2 A4.out).mono ?_); (case sideG => first | exact HG.out | exact Tab.below HG.out hB_); (case side1 => repeat (first | exact (Kd.C_below HR0.out HB.out) | (with_reducible refine Kd.C_alloc ?_ _) | (with_reducible refine Kd.C_drewN ?_ _) | (with_reducible refine Kd.C_drew ?_))); (case side2 => exact HC0.out); rintro e w7 ⟨v523, rfl, ho0, hb⟩; have n0_ := Aside0.mk (Kd.R_below (uR_ HO521.out) hb); have n1_ := Aside0.mk (Kd.S_lower (Kd.S_new' ho0 (Kd.R_lt (uR_ HO521.out))) (qal hB_)); have n2_ := Aside0.mk (qak hB_ hb); clear HO521; clear HB; have HO521 := n0_; have HO524 := n1_; have HB := n2_; clear n0_ n1_ n2_; (try clear hb); (try clear hb2); (try clear hk); (try clear hi); (try clear ho0); obtain ⟨Ao8, co8, eo8⟩ := Kd.S_slice HO524.out; subst eo8)); try go_wp2_with (first | ((with_reducible refine gate_dst (N := 14) rfl ?_); refine Kd.R_make (Kd.int .i64) _ 3 rfl (N := 14) rfl 36 _ _ rfl (l0.length : Int) rfl rfl Tryd.underlying36 (.int .i64 0) 8 info3 rfl (by decide) (by omega) 0 (ok := fun _ => True) (okp := fun _ => True) rfl (fun _ hk => hk) trivial (oD_) (Nat.le_trans (Nat.mul_le_mul_right _ (oD_ : (l0.length : Int).toNat ≤ 35184372088832)) (by omega)) (Below.refl _ _) (Nat.le_refl _) ?_; intro v520 w5 ho6 hb hg_ hnew_; clear hg_ hnew_; (first | rw [← Ny519.out] at ho6 | (simp only [Int.reduceToNat] at ho6; rw [← Ny519.out] at ho6)); have n0_ := Aside0.mk (Kd.R_lower ho6 (qal hB_)); have n1_ := Aside0.mk (qak hB_ hb); clear HB; have HO521 := n0_; have HB := n1_; clear n0_ n1_; clear hb ho6) | (go_at_call 62; (with_reducible refine (impl_table_parts.calls k _ _ l0 t522 _ ?sideG ?side1 ?side2 A4.out).mono ?_); (case sideG => first | exact HG.out | exact Tab.below HG.out hB_); (case side1 => repeat (first | exact (Kd.C_below HR0.out HB.out) | (with_reducible refine Kd.C_alloc ?_ _) | (with_reducible refine Kd.C_drewN ?_ _) | (with_reducible refine Kd.C_drew ?_))); (case side2 => exact HC0.out); rintro e w7 ⟨v523, rfl, ho0, hb⟩; have n0_ := Aside0.mk (Kd.R_below (uR_ HO521.out) hb); have n1_ := Aside0.mk (Kd.S_lower (Kd.S_new' ho0 (Kd.R_lt (uR_ HO521.out))) (qal hB_)); have n2_ := Aside0.mk (qak hB_ hb); clear HO521; clear HB; have HO521 := n0_; have HO524 := n1_; have HB := n2_; clear n0_ n1_ n2_; (try clear hb); (try clear hb2); (try clear hk); (try clear hi); (try clear ho0); obtain ⟨Ao8, co8, eo8⟩ := Kd.S_slice HO524.out; subst eo8)))
   go_loopg [18] k (fun kq v18 w' => ∃ (x4_1 : List Int) (x18_1 : Int), v18 = .int .i64 x18_1 ∧ Aside0 (impl_table_apart.l0 kq l0 x4_1 t522 (t522.length : Int) x18_1 = some (r1, r2)) ∧ Aside0 (kq ≤ k) ∧ Aside0 (Kd.R (Kd.int .i64) 3 w' w.heap.size (fun _ => True) v520 x4_1) ∧ Aside0 (Kd.S (Kd.slice 3 (Kd.int .i64)) 36 w' w.heap.size (fun k_ => some k_ ≠ (v520 : Value).ownBlock) (.slice Ao8 t522.length co8) t522) ∧ Aside0 (Below w.heap.size w w'))
   case atStart => exact ⟨(y519), (0), rS_, H', ⟨Nat.le_refl _⟩, ⟨by (with_reducible repeat (first | apply Kd.qat | apply Kd.qas | apply Kd.R_drew)); exact HO521.out⟩, ⟨by (with_reducible repeat (first | apply Kd.S_alloc | apply Kd.S_drewN | apply Kd.S_drew)); exact Kd.S_mono HO524.out (fun _ hk => hk.2)⟩, ⟨by repeat (first | (with_reducible first | exact HB.out | apply qad | apply qaa | apply qac) | exact HB.out)⟩⟩
   case round =>
    clear H'
    obtain ⟨x4_1, x18_1, rfl, HA, HK1, HO_4, HO_16, HB⟩ := hrel
    cases gk with
    | zero => exact absurd HA.out (by simp [impl_table_apart.l0])
    | succ k1 =>
     have H := HA.out
     clear HA
     simp only [impl_table_apart.l0] at H
     by_cases c9 : x18_1 < (t522.length : Int)
     ·rw [if_pos c9] at H
      have c9b0 : decide (x18_1 < (t522.length : Int)) = true := decide_eq_true c9
      clear c9
      by_cases c10 : 0 ≤ x18_1
      ·rw [if_pos c10] at H
       have c10b0 : decide (0 ≤ x18_1) = true := decide_eq_true c10
       clear c10
       by_cases c11 : x18_1 < (t522.length : Int)
       ·rw [if_pos c11] at H
        have c11b0 : decide (x18_1 < (t522.length : Int)) = true := decide_eq_true c11
        clear c11
        by_cases c12 : 0 < ((rd_L6 t522 x18_1).length : Int)
        ·rw [if_pos c12] at H
         have c12b0 : decide (0 < ((rd_L6 t522 x18_1).length : Int)) = true := decide_eq_true c12
         have c12b1 : decide (0 < (rd_L6 t522 x18_1).length) = true := decide_eq_true (by omega)
         clear c12
         replace H := Option.bind_eq_some_iff.mp H
         obtain ⟨t527, A130, H⟩ := H
         replace H : (impl_table_apart.l1 k1 l0 x4_1 t522 (t522.length : Int) x18_1 t527 (t527.length : Int) 0) = some (r1, r2) := H
         have A13 := Aside0.mk A130
         clear A130
         have H' := Aside0.mk H
         clear H
         have p525 : 0 ≤ (x18_1 : Int) := oD_
         have q525 : x18_1 < (t522.length : Int) := oD_
         obtain ⟨ad525, A525_0, c525_0, e525, hx525_0, hl525_0, hi525_0⟩ := at_L6 (Kd.S_reads' HO_16.out).2.2 x18_1 p525 q525
         cases e525
         obtain ⟨ce525, hce525, hMe525, hcc525⟩ := Kd.S_get HO_16.out [] x18_1 p525 (by first | exact q525 | exact oD_ | (have e_ := (Kd.S_reads' HO_16.out).1; omega))
         obtain ⟨ve525_0, rfl, ge525_0⟩ := hMe525
         have hv525_0 := hcc525 0 _ rfl
         rw [Nat.add_zero, show ((Kd.slice 3 (Kd.int .i64))).sz = 1 from rfl, Nat.mul_one] at hv525_0
         replace hv525_0 := Option.some.inj (hv525_0.symm.trans hx525_0)
         rw [hv525_0] at ge525_0
         have HL525_0 := Aside0.mk (show Kd.R (Kd.int .i64) 3 _ _ _ _ (rd_L6 t522 x18_1) from ge525_0)
         clear hv525_0 ge525_0
         clear hcc525 hce525
         have HR525_0 := Aside0.mk hi525_0
         have HC525_0 := Aside0.mk hl525_0
         clear hi525_0 hl525_0
         replace p525 := eq_true p525
         replace q525 := eq_true q525
         have p526 : 0 ≤ (0 : Int) := (by omega)
         have q526 : 0 < ((rd_L6 t522 x18_1).length : Int) := oD_
         obtain ⟨ad526, e526, hx526_0⟩ := Kd.at_int (by repeat (first | (with_reducible exact HR525_0.out) | (with_reducible refine Kd.C_alloc ?_ _) | (with_reducible refine Kd.C_drewN ?_ _) | (with_reducible refine Kd.C_drew ?_) | exact HR525_0.out)) 0 p526 q526
         cases e526
         have qi526 : (0 < (rd_L6 t522 x18_1).length) = True := eq_true (by omega)
         (try rw [show ((0 : Int)).toNat = 0 from rfl] at hx526_0)
         (try rw [Addr.add_zero'] at hx526_0)
         replace p526 := eq_true p526
         replace q526 := eq_true q526
         go_wp2_with (first | (go_at_call 33; (with_reducible refine (impl_table_distances.calls k1 _ _ l0 (rd (rd_L6 t522 x18_1) 0) t527 _ ?sideG ?side1 ?side2 A13.out).mono ?_); (case sideG => first | exact HG.out | exact Tab.below HG.out hB_); (case side1 => repeat (first | exact (Kd.C_below HR0.out HB.out) | (with_reducible refine Kd.C_alloc ?_ _) | (with_reducible refine Kd.C_drewN ?_ _) | (with_reducible refine Kd.C_drew ?_))); (case side2 => exact HC0.out); rintro e w14 ⟨v528, rfl, ho0, hb⟩; have n0_ := Aside0.mk (Kd.R_elder' (uR_ HO_4.out) (Kd.R_base ho0) hb); have n1_ := Aside0.mk (Kd.S_elder' (uS_ HO_16.out) (Kd.R_base ho0) hb); have n2_ := Aside0.mk (Kd.R_elder' (uR_ HL525_0.out) (Kd.R_base ho0) hb); have n3_ := Aside0.mk (Kd.R_lower (Kd.R_new' (Kd.R_new' ho0 (Kd.R_lt (uR_ HO_4.out))) (Kd.R_lt (uR_ HL525_0.out))) (qal hB_)); have n4_ := Aside0.mk (Kd.C_below (by repeat (first | (with_reducible exact HR525_0.out) | (with_reducible refine Kd.C_alloc ?_ _) | (with_reducible refine Kd.C_drewN ?_ _) | (with_reducible refine Kd.C_drew ?_) | exact HR525_0.out)) hb); have n5_ := Aside0.mk (qak hB_ hb); clear HO_4; clear HO_16; clear HL525_0; clear HR525_0; clear HB; have HO_4 := n0_; have HO_16 := n1_; have HL525_0 := n2_; have HO529 := n3_; have HR525_0 := n4_; have HB := n5_; clear n0_ n1_ n2_ n3_ n4_ n5_; (try clear hb); (try clear hb2); (try clear hk); (try clear hi); (try clear ho0); obtain ⟨Ao15, co15, eo15⟩ := Kd.R_slice HO529.out; subst eo15))
         repeat (go_quiet (first | (go_at_call 33; (with_reducible refine (impl_table_distances.calls k1 _ _ l0 (rd (rd_L6 t522 x18_1) 0) t527 _ ?sideG ?side1 ?side2 A13.out).mono ?_); (case sideG => first | exact HG.out | exact Tab.below HG.out hB_); (case side1 => repeat (first | exact (Kd.C_below HR0.out HB.out) | (with_reducible refine Kd.C_alloc ?_ _) | (with_reducible refine Kd.C_drewN ?_ _) | (with_reducible refine Kd.C_drew ?_))); (case side2 => exact HC0.out); rintro e w14 ⟨v528, rfl, ho0, hb⟩; have n0_ := Aside0.mk (Kd.R_elder' (uR_ HO_4.out) (Kd.R_base ho0) hb); have n1_ := Aside0.mk (Kd.S_elder' (uS_ HO_16.out) (Kd.R_base ho0) hb); have n2_ := Aside0.mk (Kd.R_elder' (uR_ HL525_0.out) (Kd.R_base ho0) hb); have n3_ := Aside0.mk (Kd.R_lower (Kd.R_new' (Kd.R_new' ho0 (Kd.R_lt (uR_ HO_4.out))) (Kd.R_lt (uR_ HL525_0.out))) (qal hB_)); have n4_ := Aside0.mk (Kd.C_below (by repeat (first | (with_reducible exact HR525_0.out) | (with_reducible refine Kd.C_alloc ?_ _) | (with_reducible refine Kd.C_drewN ?_ _) | (with_reducible refine Kd.C_drew ?_) | exact HR525_0.out)) hb); have n5_ := Aside0.mk (qak hB_ hb); clear HO_4; clear HO_16; clear HL525_0; clear HR525_0; clear HB; have HO_4 := n0_; have HO_16 := n1_; have HL525_0 := n2_; have HO529 := n3_; have HR525_0 := n4_; have HB := n5_; clear n0_ n1_ n2_ n3_ n4_ n5_; (try clear hb); (try clear hb2); (try clear hk); (try clear hi); (try clear ho0); obtain ⟨Ao15, co15, eo15⟩ := Kd.R_slice HO529.out; subst eo15)); try go_wp2_with (first | (go_at_call 33; (with_reducible refine (impl_table_distances.calls k1 _ _ l0 (rd (rd_L6 t522 x18_1) 0) t527 _ ?sideG ?side1 ?side2 A13.out).mono ?_); (case sideG => first | exact HG.out | exact Tab.below HG.out hB_); (case side1 => repeat (first | exact (Kd.C_below HR0.out HB.out) | (with_reducible refine Kd.C_alloc ?_ _) | (with_reducible refine Kd.C_drewN ?_ _) | (with_reducible refine Kd.C_drew ?_))); (case side2 => exact HC0.out); rintro e w14 ⟨v528, rfl, ho0, hb⟩; have n0_ := Aside0.mk (Kd.R_elder' (uR_ HO_4.out) (Kd.R_base ho0) hb); have n1_ := Aside0.mk (Kd.S_elder' (uS_ HO_16.out) (Kd.R_base ho0) hb); have n2_ := Aside0.mk (Kd.R_elder' (uR_ HL525_0.out) (Kd.R_base ho0) hb); have n3_ := Aside0.mk (Kd.R_lower (Kd.R_new' (Kd.R_new' ho0 (Kd.R_lt (uR_ HO_4.out))) (Kd.R_lt (uR_ HL525_0.out))) (qal hB_)); have n4_ := Aside0.mk (Kd.C_below (by repeat (first | (with_reducible exact HR525_0.out) | (with_reducible refine Kd.C_alloc ?_ _) | (with_reducible refine Kd.C_drewN ?_ _) | (with_reducible refine Kd.C_drew ?_) | exact HR525_0.out)) hb); have n5_ := Aside0.mk (qak hB_ hb); clear HO_4; clear HO_16; clear HL525_0; clear HR525_0; clear HB; have HO_4 := n0_; have HO_16 := n1_; have HL525_0 := n2_; have HO529 := n3_; have HR525_0 := n4_; have HB := n5_; clear n0_ n1_ n2_ n3_ n4_ n5_; (try clear hb); (try clear hb2); (try clear hk); (try clear hi); (try clear ho0); obtain ⟨Ao15, co15, eo15⟩ := Kd.R_slice HO529.out; subst eo15)))
         go_loopg [28] k1 (fun kq v28 w' => ∃ (x4_2 : List Int) (x28_2 : Int), v28 = .int .i64 x28_2 ∧ Aside0 (impl_table_apart.l1 kq l0 x4_2 t522 (t522.length : Int) x18_1 t527 (t527.length : Int) x28_2 = some (r1, r2)) ∧ Aside0 (kq ≤ k1) ∧ Aside0 (Kd.R (Kd.int .i64) 3 w' w.heap.size (fun k_ => some k_ ≠ ((.slice Ao15 t527.length co15) : Value).ownBlock) v520 x4_2) ∧ Aside0 (Kd.S (Kd.slice 3 (Kd.int .i64)) 36 w' w.heap.size (fun k_ => some k_ ≠ (v520 : Value).ownBlock ∧ some k_ ≠ ((.slice Ao15 t527.length co15) : Value).ownBlock) (.slice (some ad525) t522.length co8) t522) ∧ Aside0 (Kd.R (Kd.int .i64) 3 w' w.heap.size (fun k_ => some k_ ≠ (v520 : Value).ownBlock) (.slice Ao15 t527.length co15) t527) ∧ Aside0 (Below w.heap.size w w'))
         case atStart => exact ⟨(x4_1), (0), rS_, H', ⟨Nat.le_refl _⟩, ⟨by (with_reducible repeat (first | apply Kd.qat | apply Kd.qas | apply Kd.R_drew)); exact Kd.R_mono HO_4.out (fun _ hk => hk.2)⟩, ⟨by (with_reducible repeat (first | apply Kd.S_alloc | apply Kd.S_drewN | apply Kd.S_drew)); exact HO_16.out⟩, ⟨by (with_reducible repeat (first | apply Kd.qat | apply Kd.qas | apply Kd.R_drew)); exact Kd.R_mono HO529.out (fun _ hk => hk.1.2)⟩, ⟨by repeat (first | (with_reducible first | exact HB.out | apply qad | apply qaa | apply qac) | exact HB.out)⟩⟩
         case round =>
          clear H'
          obtain ⟨x4_2, x28_2, rfl, HA, HK2, HO_4, HO_16, HO_26, HB⟩ := hrel
          cases gk with
          | zero => exact absurd HA.out (by simp [impl_table_apart.l1])
          | succ k2 =>
           have H := HA.out
           clear HA
           simp only [impl_table_apart.l1] at H
           by_cases c16 : x28_2 < (t527.length : Int)
           ·rw [if_pos c16] at H
            have c16b0 : decide (x28_2 < (t527.length : Int)) = true := decide_eq_true c16
            clear c16
            by_cases c17 : 0 ≤ x28_2
            ·rw [if_pos c17] at H
             have c17b0 : decide (0 ≤ x28_2) = true := decide_eq_true c17
             clear c17
             by_cases c18 : x28_2 < (t527.length : Int)
             ·rw [if_pos c18] at H
              have c18b0 : decide (x28_2 < (t527.length : Int)) = true := decide_eq_true c18
              clear c18
              by_cases c19 : (rd t527 x28_2) ≥ 0
              ·rw [if_pos c19] at H
               have c19b0 : decide (0 ≤ (rd t527 x28_2)) = true := decide_eq_true c19
               clear c19
               by_cases c20 : x28_2 < (x4_2.length : Int)
               ·rw [if_pos c20] at H
                have c20b0 : decide (x28_2 < (x4_2.length : Int)) = true := decide_eq_true c20
                clear c20
                obtain ⟨y531, hy531⟩ : ∃ y_ : List Int, y_ = (x4_2.set (x28_2 : Int).toNat (Int.tmod (rd t527 x28_2) 2)) := ⟨_, rfl⟩
                replace H : (impl_table_apart.l1 k2 l0 y531 t522 (t522.length : Int) x18_1 t527 (t527.length : Int) (wrap64 (x28_2 + 1))) = some (r1, r2) := by first | (rw [hy531]; with_reducible exact H) | (have H2_ := (Option.bind_some _ _).symm.trans H; rw [hy531]; with_reducible exact H2_) | (have H2_ := (Option.bind_some _ _).symm.trans H; with_reducible exact H2_) | with_reducible exact H | (rw [hy531]; exact H) | exact H
                have Ny531 := Aside0.mk hy531
                clear hy531
                have H' := Aside0.mk H
                clear H
                have p530 : 0 ≤ (x28_2 : Int) := oD_
                have q530 : x28_2 < (t527.length : Int) := oD_
                obtain ⟨ad530, e530, hx530_0⟩ := Kd.at_int (Kd.R_reads' HO_26.out).2.2 x28_2 p530 q530
                cases e530
                replace p530 := eq_true p530
                replace q530 := eq_true q530
                have p21 : 0 ≤ (x28_2 : Int) := oD_
                have q21 : (x28_2 : Int) < ((x4_2.length : Int) : Int) := oD_
                obtain ⟨go21, co21, eo21, gb21, gl21, cl21, HG21⟩ := Kd.R_form HO_4.out (by omega)
                (first | cases eo21 | (injection eo21 with ea_ en_ ec_; (first | subst ea_ | (injection ea_ with ea_; subst ea_)); subst ec_; clear en_))
                have GB21 := Aside0.mk gb21
                have GG21 := Aside0.mk HG21
                clear gb21 gl21 HG21
                obtain ⟨hx21_0, hf21_0⟩ := Kd.R_celln 0 HO_4.out (x28_2 : Int) p21 q21
                replace p21 := eq_true p21
                replace q21 := eq_true q21
                have HP22 := Kd.R_putg HO_4.out (x28_2 : Int) (Int.tmod (rd t527 x28_2) 2)
                go_wp2_with (first | ((with_reducible refine gate_store (t := 3) (p := 39) rfl ?_); (try (rw [drewN_self wr]; generalize hq_ : World.drewN wr _ = wr; have n0_ := Aside0.mk (Kd.R_at hq_ HO_4.out); have n1_ := Aside0.mk (Kd.S_at hq_ HO_16.out); have n2_ := Aside0.mk (Kd.R_at hq_ HO_26.out); have n3_ := Aside0.mk (below_at hq_ HB.out); clear hq_ HO_4 HO_16 HO_26 HB; have HO_4 := n0_; have HO_16 := n1_; have HO_26 := n2_; have HB := n3_; clear n0_ n1_ n2_ n3_; (try (have HP22 := Kd.R_putg HO_4.out (x28_2 : Int) (Int.tmod (rd t527 x28_2) 2))))); refine store_event (t := 3) (p := 39) (v := ?vo_w23) (w1 := (wr.setCell ⟨go21, (x28_2 : Int).toNat, none⟩ (.int .i64 (Int.tmod (rd t527 x28_2) 2)))) ?hg ?ho ?hn ?hr ?_; (case ho => rfl); (case hg => rfl); (case hn => rfl); (case hr => first | (go_simp; done) | (go_simp; rfl)); intro w23 hw; have hg : wr.grownBy w23 (some go21) := (by rw [hw]; exact HP22.2); have hp_ : Kd.R (Kd.int .i64) 3 w23 w.heap.size (fun k_ => some k_ ≠ (.slice (some ad530) t527.length co15 : Value).ownBlock) (.slice (some ⟨go21, 0, none⟩) x4_2.length co21) y531 := (by rw [hw, Ny531.out]; exact HP22.1); clear HP22; have n0_ := Aside0.mk (hp_); have n1_ := Aside0.mk (Kd.S_after (v := (.slice (some ⟨go21, 0, none⟩) x4_2.length co21)) (v1 := (.slice (some ⟨go21, 0, none⟩) x4_2.length co21)) (ok := (fun k_ => some k_ ≠ (.slice (some ad530) t527.length co15 : Value).ownBlock)) (by (with_reducible repeat (first | apply Kd.S_alloc | apply Kd.S_drewN | apply Kd.S_drew)); exact Kd.S_mono HO_16.out (fun _ hk => ⟨hk.2, hk.1⟩)) hg (.inl rfl)); have n2_ := Aside0.mk (Kd.R_after (v := (.slice (some ⟨go21, 0, none⟩) x4_2.length co21)) (v1 := (.slice (some ⟨go21, 0, none⟩) x4_2.length co21)) (ok := (fun _ => True)) (by (with_reducible repeat (first | apply Kd.qat | apply Kd.qas | apply Kd.R_drew)); exact Kd.R_mono HO_26.out (fun _ hk => ⟨trivial, hk⟩)) hg (.inl rfl)); have n3_ := Aside0.mk ((by rw [hw]; exact qae (HB.out) GB21.out : Below w.heap.size w w23)); clear HO_4; clear HO_16; clear HO_26; clear HB; have HO_4 := n0_; have HO_16 := n1_; have HO_26 := n2_; have HB := n3_; clear n0_ n1_ n2_ n3_; clear hg hw hp_))
                repeat (go_quiet (first | ((with_reducible refine gate_store (t := 3) (p := 39) rfl ?_); (try (rw [drewN_self wr]; generalize hq_ : World.drewN wr _ = wr; have n0_ := Aside0.mk (Kd.R_at hq_ HO_4.out); have n1_ := Aside0.mk (Kd.S_at hq_ HO_16.out); have n2_ := Aside0.mk (Kd.R_at hq_ HO_26.out); have n3_ := Aside0.mk (below_at hq_ HB.out); clear hq_ HO_4 HO_16 HO_26 HB; have HO_4 := n0_; have HO_16 := n1_; have HO_26 := n2_; have HB := n3_; clear n0_ n1_ n2_ n3_; (try (have HP22 := Kd.R_putg HO_4.out (x28_2 : Int) (Int.tmod (rd t527 x28_2) 2))))); refine store_event (t := 3) (p := 39) (v := ?vo_w23) (w1 := (wr.setCell ⟨go21, (x28_2 : Int).toNat, none⟩ (.int .i64 (Int.tmod (rd t527 x28_2) 2)))) ?hg ?ho ?hn ?hr ?_; (case ho => rfl); (case hg => rfl); (case hn => rfl); (case hr => first | (go_simp; done) | (go_simp; rfl)); intro w23 hw; have hg : wr.grownBy w23 (some go21) := (by rw [hw]; exact HP22.2); have hp_ : Kd.R (Kd.int .i64) 3 w23 w.heap.size (fun k_ => some k_ ≠ (.slice (some ad530) t527.length co15 : Value).ownBlock) (.slice (some ⟨go21, 0, none⟩) x4_2.length co21) y531 := (by rw [hw, Ny531.out]; exact HP22.1); clear HP22; have n0_ := Aside0.mk (hp_); have n1_ := Aside0.mk (Kd.S_after (v := (.slice (some ⟨go21, 0, none⟩) x4_2.length co21)) (v1 := (.slice (some ⟨go21, 0, none⟩) x4_2.length co21)) (ok := (fun k_ => some k_ ≠ (.slice (some ad530) t527.length co15 : Value).ownBlock)) (by (with_reducible repeat (first | apply Kd.S_alloc | apply Kd.S_drewN | apply Kd.S_drew)); exact Kd.S_mono HO_16.out (fun _ hk => ⟨hk.2, hk.1⟩)) hg (.inl rfl)); have n2_ := Aside0.mk (Kd.R_after (v := (.slice (some ⟨go21, 0, none⟩) x4_2.length co21)) (v1 := (.slice (some ⟨go21, 0, none⟩) x4_2.length co21)) (ok := (fun _ => True)) (by (with_reducible repeat (first | apply Kd.qat | apply Kd.qas | apply Kd.R_drew)); exact Kd.R_mono HO_26.out (fun _ hk => ⟨trivial, hk⟩)) hg (.inl rfl)); have n3_ := Aside0.mk ((by rw [hw]; exact qae (HB.out) GB21.out : Below w.heap.size w w23)); clear HO_4; clear HO_16; clear HO_26; clear HB; have HO_4 := n0_; have HO_16 := n1_; have HO_26 := n2_; have HB := n3_; clear n0_ n1_ n2_ n3_; clear hg hw hp_)); try go_wp2_with (first | ((with_reducible refine gate_store (t := 3) (p := 39) rfl ?_); (try (rw [drewN_self wr]; generalize hq_ : World.drewN wr _ = wr; have n0_ := Aside0.mk (Kd.R_at hq_ HO_4.out); have n1_ := Aside0.mk (Kd.S_at hq_ HO_16.out); have n2_ := Aside0.mk (Kd.R_at hq_ HO_26.out); have n3_ := Aside0.mk (below_at hq_ HB.out); clear hq_ HO_4 HO_16 HO_26 HB; have HO_4 := n0_; have HO_16 := n1_; have HO_26 := n2_; have HB := n3_; clear n0_ n1_ n2_ n3_; (try (have HP22 := Kd.R_putg HO_4.out (x28_2 : Int) (Int.tmod (rd t527 x28_2) 2))))); refine store_event (t := 3) (p := 39) (v := ?vo_w23) (w1 := (wr.setCell ⟨go21, (x28_2 : Int).toNat, none⟩ (.int .i64 (Int.tmod (rd t527 x28_2) 2)))) ?hg ?ho ?hn ?hr ?_; (case ho => rfl); (case hg => rfl); (case hn => rfl); (case hr => first | (go_simp; done) | (go_simp; rfl)); intro w23 hw; have hg : wr.grownBy w23 (some go21) := (by rw [hw]; exact HP22.2); have hp_ : Kd.R (Kd.int .i64) 3 w23 w.heap.size (fun k_ => some k_ ≠ (.slice (some ad530) t527.length co15 : Value).ownBlock) (.slice (some ⟨go21, 0, none⟩) x4_2.length co21) y531 := (by rw [hw, Ny531.out]; exact HP22.1); clear HP22; have n0_ := Aside0.mk (hp_); have n1_ := Aside0.mk (Kd.S_after (v := (.slice (some ⟨go21, 0, none⟩) x4_2.length co21)) (v1 := (.slice (some ⟨go21, 0, none⟩) x4_2.length co21)) (ok := (fun k_ => some k_ ≠ (.slice (some ad530) t527.length co15 : Value).ownBlock)) (by (with_reducible repeat (first | apply Kd.S_alloc | apply Kd.S_drewN | apply Kd.S_drew)); exact Kd.S_mono HO_16.out (fun _ hk => ⟨hk.2, hk.1⟩)) hg (.inl rfl)); have n2_ := Aside0.mk (Kd.R_after (v := (.slice (some ⟨go21, 0, none⟩) x4_2.length co21)) (v1 := (.slice (some ⟨go21, 0, none⟩) x4_2.length co21)) (ok := (fun _ => True)) (by (with_reducible repeat (first | apply Kd.qat | apply Kd.qas | apply Kd.R_drew)); exact Kd.R_mono HO_26.out (fun _ hk => ⟨trivial, hk⟩)) hg (.inl rfl)); have n3_ := Aside0.mk ((by rw [hw]; exact qae (HB.out) GB21.out : Below w.heap.size w w23)); clear HO_4; clear HO_16; clear HO_26; clear HB; have HO_4 := n0_; have HO_16 := n1_; have HO_26 := n2_; have HB := n3_; clear n0_ n1_ n2_ n3_; clear hg hw hp_)))
                go_roundg k2
                case measure => have := HK1.out; have := HK2.out; omega
                case rel => exact ⟨(y531), (wrap64 (x28_2 + 1)), rS_, H', ⟨by have := HK1.out; have := HK2.out; omega⟩, ⟨by (with_reducible repeat (first | apply Kd.qat | apply Kd.qas | apply Kd.R_drew)); exact HO_4.out⟩, ⟨by (with_reducible repeat (first | apply Kd.S_alloc | apply Kd.S_drewN | apply Kd.S_drew)); exact Kd.S_mono HO_16.out (fun _ hk => ⟨hk.2, hk.1⟩)⟩, ⟨by (with_reducible repeat (first | apply Kd.qat | apply Kd.qas | apply Kd.R_drew)); exact Kd.R_mono HO_26.out (fun _ hk => hk.2)⟩, ⟨by repeat (first | (with_reducible first | exact HB.out | apply qad | apply qaa | apply qac) | exact HB.out)⟩⟩
               ·rw [if_neg c20] at H
                exact absurd H (by simp)
              ·rw [if_neg c19] at H
               have c19b0 : decide (0 ≤ (rd t527 x28_2)) = false := decide_eq_false c19
               clear c19
               have H' := Aside0.mk H
               clear H
               have p530 : 0 ≤ (x28_2 : Int) := oD_
               have q530 : x28_2 < (t527.length : Int) := oD_
               obtain ⟨ad530, e530, hx530_0⟩ := Kd.at_int (Kd.R_reads' HO_26.out).2.2 x28_2 p530 q530
               cases e530
               replace p530 := eq_true p530
               replace q530 := eq_true q530
               go_wp2
               repeat (go_quiet (fail); try go_wp2)
               go_roundg k2
               case measure => have := HK1.out; have := HK2.out; omega
               case rel => exact ⟨(x4_2), (wrap64 (x28_2 + 1)), rS_, H', ⟨by have := HK1.out; have := HK2.out; omega⟩, ⟨by (with_reducible repeat (first | apply Kd.qat | apply Kd.qas | apply Kd.R_drew)); exact HO_4.out⟩, ⟨by (with_reducible repeat (first | apply Kd.S_alloc | apply Kd.S_drewN | apply Kd.S_drew)); exact HO_16.out⟩, ⟨by (with_reducible repeat (first | apply Kd.qat | apply Kd.qas | apply Kd.R_drew)); exact HO_26.out⟩, ⟨by repeat (first | (with_reducible first | exact HB.out | apply qad | apply qaa | apply qac) | exact HB.out)⟩⟩
             ·rw [if_neg c18] at H
              exact absurd H (by simp)
            ·rw [if_neg c17] at H
             exact absurd H (by simp)
           ·rw [if_neg c16] at H
            have c16b0 : decide (x28_2 < (t527.length : Int)) = false := decide_eq_false c16
            clear c16
            have H' := Aside0.mk H
            clear H
            go_wp2
            repeat (go_quiet (fail); try go_wp2)
            go_roundg k2
            case measure => have := HK1.out; have := HK2.out; omega
            case rel => exact ⟨(x4_2), (wrap64 (x18_1 + 1)), rS_, H', ⟨by have := HK1.out; have := HK2.out; omega⟩, ⟨by (with_reducible repeat (first | apply Kd.qat | apply Kd.qas | apply Kd.R_drew)); exact Kd.R_mono HO_4.out (fun _ hk => trivial)⟩, ⟨by (with_reducible repeat (first | apply Kd.S_alloc | apply Kd.S_drewN | apply Kd.S_drew)); exact Kd.S_mono HO_16.out (fun _ hk => hk.1)⟩, ⟨by repeat (first | (with_reducible first | exact HB.out | apply qad | apply qaa | apply qac) | exact HB.out)⟩⟩
        ·rw [if_neg c12] at H
         exact absurd H (by simp)
       ·rw [if_neg c11] at H
        exact absurd H (by simp)
      ·rw [if_neg c10] at H
       exact absurd H (by simp)
     ·rw [if_neg c9] at H
      have c9b0 : decide (x18_1 < (t522.length : Int)) = false := decide_eq_false c9
      clear c9
      have H' := Aside0.mk H
      clear H
      go_wp2
      repeat (go_quiet (fail); try go_wp2)
      go_loopg [44] k1 (fun kq v44 w' => ∃ (x44_2 : Int), v44 = .int .i64 x44_2 ∧ Aside0 (impl_table_apart.l2 kq l0 x4_1 (l0.length : Int) x44_2 = some (r1, r2)) ∧ Aside0 (kq ≤ k1) ∧ Aside0 (Kd.R (Kd.int .i64) 3 w' w.heap.size (fun _ => True) v520 x4_1) ∧ Aside0 (Below w.heap.size w w'))
      case atStart => exact ⟨(0), rS_, H', ⟨Nat.le_refl _⟩, ⟨by (with_reducible repeat (first | apply Kd.qat | apply Kd.qas | apply Kd.R_drew)); exact HO_4.out⟩, ⟨by repeat (first | (with_reducible first | exact HB.out | apply qad | apply qaa | apply qac) | exact HB.out)⟩⟩
      case round =>
       clear H'
       obtain ⟨x44_2, rfl, HA, HK2, HO_4, HB⟩ := hrel
       cases gk with
       | zero => exact absurd HA.out (by simp [impl_table_apart.l2])
       | succ k2 =>
        have H := HA.out
        clear HA
        simp only [impl_table_apart.l2] at H
        by_cases c24 : x44_2 < (l0.length : Int)
        ·rw [if_pos c24] at H
         have c24b0 : decide (x44_2 < (l0.length : Int)) = true := decide_eq_true c24
         clear c24
         by_cases c25 : 0 ≤ x44_2
         ·rw [if_pos c25] at H
          have c25b0 : decide (0 ≤ x44_2) = true := decide_eq_true c25
          clear c25
          by_cases c26 : x44_2 < (l0.length : Int)
          ·rw [if_pos c26] at H
           have c26b0 : decide (x44_2 < (l0.length : Int)) = true := decide_eq_true c26
           clear c26
           replace H := Option.bind_eq_some_iff.mp H
           obtain ⟨t533, A270, H⟩ := H
           replace H : (impl_table_apart.l3 k2 l0 x4_1 x44_2 (l0.length : Int) x44_2 t533 (t533.length : Int) 0) = some (r1, r2) := H
           have A27 := Aside0.mk A270
           clear A270
           have H' := Aside0.mk H
           clear H
           have p532 : 0 ≤ (x44_2 : Int) := oD_
           have q532 : x44_2 < (l0.length : Int) := oD_
           obtain ⟨ad532, e532, hx532_0⟩ := Kd.at_int HR0.out x44_2 p532 q532
           cases e532
           (try (replace hx532_0 := (HB.out.cell (World.block_lt_of_cell? w _ hx532_0)).trans hx532_0))
           replace p532 := eq_true p532
           replace q532 := eq_true q532
           go_wp2_with (first | (go_at_call 55; (with_reducible refine (impl_listed.calls k2 (rd l0 x44_2) t533 _ ?sideG A27.out).mono ?_); (case sideG => first | exact HG.out | exact Tab.below HG.out hB_); rintro e w28 ⟨v534, rfl, ho0, hb⟩; have n0_ := Aside0.mk (Kd.R_elder' (uR_ HO_4.out) (Kd.R_base ho0) hb); have n1_ := Aside0.mk (Kd.R_lower (Kd.R_new' ho0 (Kd.R_lt (uR_ HO_4.out))) (qal hB_)); have n2_ := Aside0.mk (qak hB_ hb); clear HO_4; clear HB; have HO_4 := n0_; have HO535 := n1_; have HB := n2_; clear n0_ n1_ n2_; (try clear hb); (try clear hb2); (try clear hk); (try clear hi); (try clear ho0); obtain ⟨Ao29, co29, eo29⟩ := Kd.R_slice HO535.out; subst eo29))
           repeat (go_quiet (first | (go_at_call 55; (with_reducible refine (impl_listed.calls k2 (rd l0 x44_2) t533 _ ?sideG A27.out).mono ?_); (case sideG => first | exact HG.out | exact Tab.below HG.out hB_); rintro e w28 ⟨v534, rfl, ho0, hb⟩; have n0_ := Aside0.mk (Kd.R_elder' (uR_ HO_4.out) (Kd.R_base ho0) hb); have n1_ := Aside0.mk (Kd.R_lower (Kd.R_new' ho0 (Kd.R_lt (uR_ HO_4.out))) (qal hB_)); have n2_ := Aside0.mk (qak hB_ hb); clear HO_4; clear HB; have HO_4 := n0_; have HO535 := n1_; have HB := n2_; clear n0_ n1_ n2_; (try clear hb); (try clear hb2); (try clear hk); (try clear hi); (try clear ho0); obtain ⟨Ao29, co29, eo29⟩ := Kd.R_slice HO535.out; subst eo29)); try go_wp2_with (first | (go_at_call 55; (with_reducible refine (impl_listed.calls k2 (rd l0 x44_2) t533 _ ?sideG A27.out).mono ?_); (case sideG => first | exact HG.out | exact Tab.below HG.out hB_); rintro e w28 ⟨v534, rfl, ho0, hb⟩; have n0_ := Aside0.mk (Kd.R_elder' (uR_ HO_4.out) (Kd.R_base ho0) hb); have n1_ := Aside0.mk (Kd.R_lower (Kd.R_new' ho0 (Kd.R_lt (uR_ HO_4.out))) (qal hB_)); have n2_ := Aside0.mk (qak hB_ hb); clear HO_4; clear HB; have HO_4 := n0_; have HO535 := n1_; have HB := n2_; clear n0_ n1_ n2_; (try clear hb); (try clear hb2); (try clear hk); (try clear hi); (try clear ho0); obtain ⟨Ao29, co29, eo29⟩ := Kd.R_slice HO535.out; subst eo29)))
           go_loopg [53] k2 (fun kq v53 w' => ∃ (x53_3 : Int), v53 = .int .i64 x53_3 ∧ Aside0 (impl_table_apart.l3 kq l0 x4_1 x44_2 (l0.length : Int) x44_2 t533 (t533.length : Int) x53_3 = some (r1, r2)) ∧ Aside0 (kq ≤ k2) ∧ Aside0 (Kd.R (Kd.int .i64) 3 w' w.heap.size (fun k_ => some k_ ≠ ((.slice Ao29 t533.length co29) : Value).ownBlock) v520 x4_1) ∧ Aside0 (Kd.R (Kd.int .i64) 3 w' w.heap.size (fun k_ => some k_ ≠ (v520 : Value).ownBlock) (.slice Ao29 t533.length co29) t533) ∧ Aside0 (Below w.heap.size w w'))
           case atStart => exact ⟨(0), rS_, H', ⟨Nat.le_refl _⟩, ⟨by (with_reducible repeat (first | apply Kd.qat | apply Kd.qas | apply Kd.R_drew)); exact Kd.R_mono HO_4.out (fun _ hk => hk.2)⟩, ⟨by (with_reducible repeat (first | apply Kd.qat | apply Kd.qas | apply Kd.R_drew)); exact Kd.R_mono HO535.out (fun _ hk => hk.2)⟩, ⟨by repeat (first | (with_reducible first | exact HB.out | apply qad | apply qaa | apply qac) | exact HB.out)⟩⟩
           case round =>
            clear H'
            obtain ⟨x53_3, rfl, HA, HK3, HO_4, HO_51, HB⟩ := hrel
            cases gk with
            | zero => exact absurd HA.out (by simp [impl_table_apart.l3])
            | succ k3 =>
             have H := HA.out
             clear HA
             simp only [impl_table_apart.l3] at H
             by_cases c30 : x53_3 < (t533.length : Int)
             ·rw [if_pos c30] at H
              have c30b0 : decide (x53_3 < (t533.length : Int)) = true := decide_eq_true c30
              clear c30
              by_cases c31 : 0 ≤ x53_3
              ·rw [if_pos c31] at H
               have c31b0 : decide (0 ≤ x53_3) = true := decide_eq_true c31
               clear c31
               by_cases c32 : x53_3 < (t533.length : Int)
               ·rw [if_pos c32] at H
                have c32b0 : decide (x53_3 < (t533.length : Int)) = true := decide_eq_true c32
                clear c32
                by_cases c33 : 0 ≤ x44_2
                ·rw [if_pos c33] at H
                 have c33b0 : decide (0 ≤ x44_2) = true := decide_eq_true c33
                 clear c33
                 by_cases c34 : x44_2 < (x4_1.length : Int)
                 ·rw [if_pos c34] at H
                  have c34b0 : decide (x44_2 < (x4_1.length : Int)) = true := decide_eq_true c34
                  clear c34
                  by_cases c35 : 0 ≤ (rd t533 x53_3)
                  ·rw [if_pos c35] at H
                   have c35b0 : decide (0 ≤ (rd t533 x53_3)) = true := decide_eq_true c35
                   clear c35
                   by_cases c36 : (rd t533 x53_3) < (x4_1.length : Int)
                   ·rw [if_pos c36] at H
                    have c36b0 : decide ((rd t533 x53_3) < (x4_1.length : Int)) = true := decide_eq_true c36
                    clear c36
                    by_cases c37 : (rd x4_1 x44_2) = (rd x4_1 (rd t533 x53_3))
                    ·rw [if_pos c37] at H
                     have c37b0 : ((rd x4_1 x44_2) == (rd x4_1 (rd t533 x53_3))) = true := beq_iff_eq.mpr c37
                     have c37b1 : ((rd x4_1 x44_2) != (rd x4_1 (rd t533 x53_3))) = false := bne_eq_false_iff_eq.mpr c37
                     clear c37
                     simp only [Option.some.injEq, Prod.mk.injEq] at H
                     obtain ⟨rfl, rfl⟩ := H
                     have p536 : 0 ≤ (x53_3 : Int) := oD_
                     have q536 : x53_3 < (t533.length : Int) := oD_
                     obtain ⟨ad536, e536, hx536_0⟩ := Kd.at_int (Kd.R_reads' HO_51.out).2.2 x53_3 p536 q536
                     cases e536
                     replace p536 := eq_true p536
                     replace q536 := eq_true q536
                     obtain ⟨Ao38, co38, eo38⟩ := Kd.R_slice HO_4.out
                     subst eo38
                     have p537 : 0 ≤ (x44_2 : Int) := oD_
                     have q537 : x44_2 < (x4_1.length : Int) := oD_
                     obtain ⟨ad537, e537, hx537_0⟩ := Kd.at_int (Kd.R_reads' HO_4.out).2.2 x44_2 p537 q537
                     cases e537
                     replace p537 := eq_true p537
                     replace q537 := eq_true q537
                     have p538 : 0 ≤ ((rd t533 x53_3) : Int) := oD_
                     have q538 : (rd t533 x53_3) < (x4_1.length : Int) := oD_
                     obtain ⟨ad538, e538, hx538_0⟩ := Kd.at_int (Kd.R_reads' HO_4.out).2.2 (rd t533 x53_3) p538 q538
                     obtain rfl : ad537 = ad538 := (by injection e538)
                     replace p538 := eq_true p538
                     replace q538 := eq_true q538
                     go_wp2
                     repeat (go_quiet (fail); try go_wp2)
                     go_ret2
                     exact ⟨_, by first | rfl | (simp [errW_none, errW_some] <;> rfl) | (simp [*, errW_none, errW_some] <;> rfl), by first | exact Kd.R_nil _ _ _ _ _ | exact Kd.N_nil _ _ _ _ _ | exact Kd.V_nil _ _ _ _ _ | exact Kd.Q_nil _ _ _ _ _ | exact Kd.S_nil _ _ _ _ _, by repeat (first | (with_reducible first | exact HB.out | apply qad | apply qaa | apply qac) | exact HB.out)⟩
                    ·rw [if_neg c37] at H
                     have c37b0 : ((rd x4_1 x44_2) == (rd x4_1 (rd t533 x53_3))) = false := beq_eq_false_iff_ne.mpr c37
                     have c37b1 : ((rd x4_1 x44_2) != (rd x4_1 (rd t533 x53_3))) = true := bne_iff_ne.mpr c37
                     have H' := Aside0.mk H
                     clear H
                     have p536 : 0 ≤ (x53_3 : Int) := oD_
                     have q536 : x53_3 < (t533.length : Int) := oD_
                     obtain ⟨ad536, e536, hx536_0⟩ := Kd.at_int (Kd.R_reads' HO_51.out).2.2 x53_3 p536 q536
                     cases e536
                     replace p536 := eq_true p536
                     replace q536 := eq_true q536
                     obtain ⟨Ao39, co39, eo39⟩ := Kd.R_slice HO_4.out
                     subst eo39
                     have p537 : 0 ≤ (x44_2 : Int) := oD_
                     have q537 : x44_2 < (x4_1.length : Int) := oD_
                     obtain ⟨ad537, e537, hx537_0⟩ := Kd.at_int (Kd.R_reads' HO_4.out).2.2 x44_2 p537 q537
                     cases e537
                     replace p537 := eq_true p537
                     replace q537 := eq_true q537
                     have p538 : 0 ≤ ((rd t533 x53_3) : Int) := oD_
                     have q538 : (rd t533 x53_3) < (x4_1.length : Int) := oD_
                     obtain ⟨ad538, e538, hx538_0⟩ := Kd.at_int (Kd.R_reads' HO_4.out).2.2 (rd t533 x53_3) p538 q538
                     obtain rfl : ad537 = ad538 := (by injection e538)
                     replace p538 := eq_true p538
                     replace q538 := eq_true q538
                     go_wp2
                     repeat (go_quiet (fail); try go_wp2)
                     go_roundg k3
                     case measure => have := HK1.out; have := HK2.out; have := HK3.out; omega
                     case rel => exact ⟨(wrap64 (x53_3 + 1)), rS_, H', ⟨by have := HK1.out; have := HK2.out; have := HK3.out; omega⟩, ⟨by (with_reducible repeat (first | apply Kd.qat | apply Kd.qas | apply Kd.R_drew)); exact HO_4.out⟩, ⟨by (with_reducible repeat (first | apply Kd.qat | apply Kd.qas | apply Kd.R_drew)); exact HO_51.out⟩, ⟨by repeat (first | (with_reducible first | exact HB.out | apply qad | apply qaa | apply qac) | exact HB.out)⟩⟩
                   ·rw [if_neg c36] at H
                    exact absurd H (by simp)
                  ·rw [if_neg c35] at H
                   exact absurd H (by simp)
                 ·rw [if_neg c34] at H
                  exact absurd H (by simp)
                ·rw [if_neg c33] at H
                 exact absurd H (by simp)
               ·rw [if_neg c32] at H
                exact absurd H (by simp)
              ·rw [if_neg c31] at H
               exact absurd H (by simp)
             ·rw [if_neg c30] at H
              have c30b0 : decide (x53_3 < (t533.length : Int)) = false := decide_eq_false c30
              clear c30
              have H' := Aside0.mk H
              clear H
              go_wp2
              repeat (go_quiet (fail); try go_wp2)
              go_roundg k3
              case measure => have := HK1.out; have := HK2.out; have := HK3.out; omega
              case rel => exact ⟨(wrap64 (x44_2 + 1)), rS_, H', ⟨by have := HK1.out; have := HK2.out; have := HK3.out; omega⟩, ⟨by (with_reducible repeat (first | apply Kd.qat | apply Kd.qas | apply Kd.R_drew)); exact Kd.R_mono HO_4.out (fun _ hk => trivial)⟩, ⟨by repeat (first | (with_reducible first | exact HB.out | apply qad | apply qaa | apply qac) | exact HB.out)⟩⟩
          ·rw [if_neg c26] at H
           exact absurd H (by simp)
         ·rw [if_neg c25] at H
          exact absurd H (by simp)
        ·rw [if_neg c24] at H
         have c24b0 : decide (x44_2 < (l0.length : Int)) = false := decide_eq_false c24
         clear c24
         simp only [Option.some.injEq, Prod.mk.injEq] at H
         obtain ⟨rfl, rfl⟩ := H
         go_wp2
         repeat (go_quiet (fail); try go_wp2)
         go_ret2
         exact ⟨_, by first | rfl | (simp [errW_none, errW_some] <;> rfl) | (simp [*, errW_none, errW_some] <;> rfl), by (with_reducible repeat (first | apply Kd.qat | apply Kd.qas | apply Kd.R_drew)); exact HO_4.out, by repeat (first | (with_reducible first | exact HB.out | apply qad | apply qaa | apply qac) | exact HB.out)⟩
  ·rw [if_neg c3] at H
   exact absurd H (by simp)
 ·rw [if_neg c2] at H
  exact absurd H (by simp)

end Go.Proofs.YtedfcbbklhfgcaaDoor.Q
