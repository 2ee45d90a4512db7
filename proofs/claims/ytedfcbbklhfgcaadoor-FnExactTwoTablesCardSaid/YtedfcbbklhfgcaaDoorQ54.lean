import Derived.Test.YtedfcbbklhfgcaaDoorQ0
import Derived.Test.YtedfcbbklhfgcaaDoorQ8
import Derived.Test.YtedfcbbklhfgcaaDoorQ10
import Derived.Test.YtedfcbbklhfgcaaDoorQ53
namespace Go.Proofs.YtedfcbbklhfgcaaDoor.Q
open Go.RowKit Go.Proofs.YtedfcbbklhfgcaaDoorW.PrintWords Go.Proofs.YtedfcbbklhfgcaaDoorW.PrintLast Go.Proofs.YtedfcbbklhfgcaaDoorW.PrintMore
attribute [local go_sem] max2_int min2_int max_two min_two max_three min_three max_four min_four   -- for this text's walks alone
set_option linter.unusedVariables false
set_option linter.unusedSimpArgs false

/-! ### spec_l1Put: function 71 -/
def spec_l1Put.l0 : Nat → List Int → Int → Int → Option (List Int)
 | 0, _, _, _ => none
 | k + 1, x0, x1, x5 => if x5 < (x0.length : Int) then (if 0 ≤ x5 then (if (rd x0 x5) < x1 then (spec_l1Put.l0 k x0 x1 (wrap64 (x5 + 1))) else (if (rd x0 x5) = x1 then (some x0) else ((some (([] : List Int) : List Int)).bind fun y395 => (if x5 ≤ (x0.length : Int) then ((some (x0.take (x5 : Int).toNat : List Int)).bind fun y398 => (if y395.length + y398.length < 17592186044416 then ((some (y395 ++ y398 : List Int)).bind fun y402 => (if y402.length < 17592186044416 then ((some (y402 ++ [x1] : List Int)).bind fun y405 => ((some (x0.drop (x5 : Int).toNat : List Int)).bind fun y408 => (if y405.length + y408.length < 17592186044416 then (some (y405 ++ y408)) else (none)))) else (none))) else (none))) else (none))))) else (none)) else ((some (([] : List Int) : List Int)).bind fun y415 => (if 0 ≤ x5 then (if x5 ≤ (x0.length : Int) then ((some (x0.take (x5 : Int).toNat : List Int)).bind fun y418 => (if y415.length + y418.length < 17592186044416 then ((some (y415 ++ y418 : List Int)).bind fun y422 => (if y422.length < 17592186044416 then ((some (y422 ++ [x1] : List Int)).bind fun y425 => ((some (x0.drop (x5 : Int).toNat : List Int)).bind fun y428 => (if y425.length + y428.length < 17592186044416 then (some (y425 ++ y428)) else (none)))) else (none))) else (none))) else (none)) else (none)))
def spec_l1Put.f (k : Nat) (l0 : List Int) (a1 : Int) : Option (List Int) := spec_l1Put.l0 k l0 a1 0
theorem spec_l1Put.mono_l : ∀ k, (∀ y0 y1 y2, LeO (spec_l1Put.l0 k y0 y1 y2) (spec_l1Put.l0 (k + 1) y0 y1 y2))
 | 0 => fun _ _ _ r h => by simp [spec_l1Put.l0] at h
 | k + 1 => by
  have ih0 := spec_l1Put.mono_l k
  ·intro y0 y1 y2
   unfold spec_l1Put.l0
   repeat' first
   | (with_reducible exact ih0 _ _ _)
   | (with_reducible exact LeO.refl _)
   | (with_reducible exact LeO.none _)
   | (with_reducible refine LeO.ite ?_ ?_)
   | (with_reducible refine LeO.bind ?_ (fun _ => ?_))
   | exact ih0 _ _ _
   | exact LeO.none _
   | refine LeO.ite ?_ ?_
   | refine LeO.bind ?_ (fun _ => ?_)
theorem spec_l1Put.mono : ∀ a0 a1 k, LeO (spec_l1Put.f k a0 a1) (spec_l1Put.f (k + 1) a0 a1) := by
 intro a0 a1 k
 have ih0 := spec_l1Put.mono_l k
 unfold spec_l1Put.f
 repeat' first
   | (with_reducible exact ih0 _ _ _)
   | (with_reducible exact LeO.refl _)
   | (with_reducible exact LeO.none _)
   | (with_reducible refine LeO.ite ?_ ?_)
   | (with_reducible refine LeO.bind ?_ (fun _ => ?_))
   | exact ih0 _ _ _
   | exact LeO.none _
   | refine LeO.ite ?_ ?_
   | refine LeO.bind ?_ (fun _ => ?_)
set_option maxHeartbeats 8000000 in
set_option maxRecDepth 100000 in
theorem spec_l1Put.calls (k : Nat) (P0_ : Nat → Prop) (u9000_ : Value) (l0 : List Int) (a1 : Int) (r : List Int) (w0 w : World) (hB : Below w0.heap.size w0 w) (ho0 : Kd.R (Kd.int .i64) 3 w w0.heap.size P0_ u9000_ l0) (h : spec_l1Put.f k l0 a1 = some r) :
  Calls Tryd.prog 71 #[u9000_, .int .i64 a1] w fun e w' => ∃ v0_ : Value, e = .returned (v0_) ∧ Kd.R (Kd.int .i64) 3 w' w0.heap.size (fun k_ => (P0_ k_ ∨ w.heap.size ≤ k_)) v0_ r ∧ Below w0.heap.size w0 w' ∧ Kept w w' (fun k_ => P0_ k_) := by
 have HO0 := Aside0.mk (show Kd.R (Kd.int .i64) 3 w w0.heap.size (fun k_ => (P0_ k_ ∨ w.heap.size ≤ k_)) u9000_ l0 from Kd.R_mono ho0 (fun k_ hk => (.inl hk)))
 have HK := Aside0.mk (Kept.refl w (fun k_ => P0_ k_))
 have HW0 := Aside0.mk hB.size
 have HB := Aside0.mk hB
 clear hB
 have H : (spec_l1Put.l0 k l0 a1 0) = some r := h
 clear h
 have H' := Aside0.mk H
 clear H
 go_enter Tryd.func71, Tryd.ntmps71
 go_wp2
 go_loopg [5] k (fun kq v5 w' => ∃ (x5_1 : Int), v5 = .int .i64 x5_1 ∧ Aside0 (spec_l1Put.l0 kq l0 a1 x5_1 = some r) ∧ Aside0 (kq ≤ k) ∧ Aside0 (Kd.R (Kd.int .i64) 3 w' w0.heap.size (fun k_ => (P0_ k_ ∨ w.heap.size ≤ k_)) u9000_ l0) ∧ Aside0 (Kept w w' (fun k_ => P0_ k_)) ∧ Aside0 (Below w0.heap.size w0 w'))
 case atStart => exact ⟨(0), rS_, H', ⟨Nat.le_refl _⟩, ⟨by (with_reducible repeat (first | apply Kd.qat | apply Kd.qas | apply Kd.R_drew)); exact HO0.out⟩, ⟨by repeat (first | (with_reducible first | exact HK.out | apply Kept.alloc | apply Kept.drewN | apply Kept.drew) | exact HK.out)⟩, ⟨by repeat (first | (with_reducible first | exact HB.out | apply qad | apply qaa | apply qac) | exact HB.out)⟩⟩
 case round =>
  clear H'
  obtain ⟨x5_1, rfl, HA, HK1, HO_0, HK, HB⟩ := hrel
  cases gk with
  | zero => exact absurd HA.out (by simp [spec_l1Put.l0])
  | succ k1 =>
   have H := HA.out
   clear HA
   simp only [spec_l1Put.l0] at H
   by_cases c3 : x5_1 < (l0.length : Int)
   ·rw [if_pos c3] at H
    have c3b0 : decide (x5_1 < (l0.length : Int)) = true := decide_eq_true c3
    clear c3
    by_cases c4 : 0 ≤ x5_1
    ·rw [if_pos c4] at H
     have c4b0 : decide (0 ≤ x5_1) = true := decide_eq_true c4
     clear c4
     by_cases c5 : (rd l0 x5_1) < a1
     ·rw [if_pos c5] at H
      have c5b0 : decide ((rd l0 x5_1) < a1) = true := decide_eq_true c5
      clear c5
      have H' := Aside0.mk H
      clear H
      obtain ⟨Ao6, co6, eo6⟩ := Kd.R_slice HO_0.out
      subst eo6
      have p393 : 0 ≤ (x5_1 : Int) := oD_
      have q393 : x5_1 < (l0.length : Int) := oD_
      obtain ⟨ad393, e393, hx393_0⟩ := Kd.at_int (Kd.R_reads' HO_0.out).2.2 x5_1 p393 q393
      cases e393
      replace p393 := eq_true p393
      replace q393 := eq_true q393
      go_wp2
      go_roundg k1
      case measure => have := HK1.out; omega
      case rel => exact ⟨(wrap64 (x5_1 + 1)), rS_, H', ⟨by have := HK1.out; omega⟩, ⟨by (with_reducible repeat (first | apply Kd.qat | apply Kd.qas | apply Kd.R_drew)); exact HO_0.out⟩, ⟨by repeat (first | (with_reducible first | exact HK.out | apply Kept.alloc | apply Kept.drewN | apply Kept.drew) | exact HK.out)⟩, ⟨by repeat (first | (with_reducible first | exact HB.out | apply qad | apply qaa | apply qac) | exact HB.out)⟩⟩
     ·rw [if_neg c5] at H
      have c5b0 : decide ((rd l0 x5_1) < a1) = false := decide_eq_false c5
      clear c5
      by_cases c7 : (rd l0 x5_1) = a1
      ·rw [if_pos c7] at H
       have c7b0 : ((rd l0 x5_1) == a1) = true := beq_iff_eq.mpr c7
       have c7b1 : ((rd l0 x5_1) != a1) = false := bne_eq_false_iff_eq.mpr c7
       clear c7
       obtain rfl := Option.some.inj H
       obtain ⟨Ao8, co8, eo8⟩ := Kd.R_slice HO_0.out
       subst eo8
       have p393 : 0 ≤ (x5_1 : Int) := oD_
       have q393 : x5_1 < (l0.length : Int) := oD_
       obtain ⟨ad393, e393, hx393_0⟩ := Kd.at_int (Kd.R_reads' HO_0.out).2.2 x5_1 p393 q393
       cases e393
       replace p393 := eq_true p393
       replace q393 := eq_true q393
       have p394 : 0 ≤ (x5_1 : Int) := oD_
       have q394 : x5_1 < (l0.length : Int) := oD_
       obtain ⟨ad394, e394, hx394_0⟩ := Kd.at_int (Kd.R_reads' HO_0.out).2.2 x5_1 p394 q394
       obtain rfl : ad393 = ad394 := (by injection e394)
       replace p394 := eq_true p394
       replace q394 := eq_true q394
       go_wp2
       go_ret
       exact ⟨_, by first | rfl | (simp [errW_none, errW_some] <;> rfl) | (simp [*, errW_none, errW_some] <;> rfl), by (with_reducible repeat (first | apply Kd.qat | apply Kd.qas | apply Kd.R_drew)); exact HO_0.out, by repeat (first | (with_reducible first | exact HB.out | apply qad | apply qaa | apply qac) | exact HB.out), by repeat (first | (with_reducible first | exact HK.out | apply Kept.alloc | apply Kept.drewN | apply Kept.drew) | exact HK.out)⟩
      ·rw [if_neg c7] at H
       have c7b0 : ((rd l0 x5_1) == a1) = false := beq_eq_false_iff_ne.mpr c7
       have c7b1 : ((rd l0 x5_1) != a1) = true := bne_iff_ne.mpr c7
       obtain ⟨y395, hy395⟩ : ∃ y_ : List Int, y_ = (([] : List Int)) := ⟨_, rfl⟩
       replace H : (if x5_1 ≤ (l0.length : Int) then ((some (l0.take (x5_1 : Int).toNat : List Int)).bind fun y398 => (if y395.length + y398.length < 17592186044416 then ((some (y395 ++ y398 : List Int)).bind fun y402 => (if y402.length < 17592186044416 then ((some (y402 ++ [a1] : List Int)).bind fun y405 => ((some (l0.drop (x5_1 : Int).toNat : List Int)).bind fun y408 => (if y405.length + y408.length < 17592186044416 then (some (y405 ++ y408)) else (none)))) else (none))) else (none))) else (none)) = some r := by first | (rw [hy395]; with_reducible exact H) | (have H2_ := (Option.bind_some _ _).symm.trans H; rw [hy395]; with_reducible exact H2_) | (have H2_ := (Option.bind_some _ _).symm.trans H; with_reducible exact H2_) | with_reducible exact H | (rw [hy395]; exact H) | exact H
       have Ny395 := Aside0.mk hy395
       clear hy395
       have c9b0 := eq_true (oD_ : 0 ≤ x5_1)
       by_cases c10 : x5_1 ≤ (l0.length : Int)
       ·rw [if_pos c10] at H
        have c10b0 := eq_true c10
        have c10b1 : decide (x5_1 ≤ (l0.length : Int)) = true := decide_eq_true c10
        clear c10
        obtain ⟨y398, hy398⟩ : ∃ y_ : List Int, y_ = (l0.take (x5_1 : Int).toNat) := ⟨_, rfl⟩
        replace H : (if y395.length + y398.length < 17592186044416 then ((some (y395 ++ y398 : List Int)).bind fun y402 => (if y402.length < 17592186044416 then ((some (y402 ++ [a1] : List Int)).bind fun y405 => ((some (l0.drop (x5_1 : Int).toNat : List Int)).bind fun y408 => (if y405.length + y408.length < 17592186044416 then (some (y405 ++ y408)) else (none)))) else (none))) else (none)) = some r := by first | (rw [hy398]; with_reducible exact H) | (have H2_ := (Option.bind_some _ _).symm.trans H; rw [hy398]; with_reducible exact H2_) | (have H2_ := (Option.bind_some _ _).symm.trans H; with_reducible exact H2_) | with_reducible exact H | (rw [hy398]; exact H) | exact H
        have Ny398 := Aside0.mk hy398
        clear hy398
        by_cases c11 : y395.length + y398.length < 17592186044416
        ·rw [if_pos c11] at H
         have LMc11 := Aside0.mk c11
         clear c11
         obtain ⟨y402, hy402⟩ : ∃ y_ : List Int, y_ = (y395 ++ y398) := ⟨_, rfl⟩
         replace H : (if y402.length < 17592186044416 then ((some (y402 ++ [a1] : List Int)).bind fun y405 => ((some (l0.drop (x5_1 : Int).toNat : List Int)).bind fun y408 => (if y405.length + y408.length < 17592186044416 then (some (y405 ++ y408)) else (none)))) else (none)) = some r := by first | (rw [hy402]; with_reducible exact H) | (have H2_ := (Option.bind_some _ _).symm.trans H; rw [hy402]; with_reducible exact H2_) | (have H2_ := (Option.bind_some _ _).symm.trans H; with_reducible exact H2_) | with_reducible exact H | (rw [hy402]; exact H) | exact H
         have Ny402 := Aside0.mk hy402
         clear hy402
         by_cases c12 : y402.length < 17592186044416
         ·rw [if_pos c12] at H
          have LMc12 := Aside0.mk c12
          clear c12
          obtain ⟨y405, hy405⟩ : ∃ y_ : List Int, y_ = (y402 ++ [a1]) := ⟨_, rfl⟩
          replace H : ((some (l0.drop (x5_1 : Int).toNat : List Int)).bind fun y408 => (if y405.length + y408.length < 17592186044416 then (some (y405 ++ y408)) else (none))) = some r := by first | (rw [hy405]; with_reducible exact H) | (have H2_ := (Option.bind_some _ _).symm.trans H; rw [hy405]; with_reducible exact H2_) | (have H2_ := (Option.bind_some _ _).symm.trans H; with_reducible exact H2_) | with_reducible exact H | (rw [hy405]; exact H) | exact H
          have Ny405 := Aside0.mk hy405
          clear hy405
          have c13b0 := eq_true (oD_ : 0 ≤ x5_1)
          have c14b0 := eq_true (oD_ : x5_1 ≤ (l0.length : Int))
          obtain ⟨y408, hy408⟩ : ∃ y_ : List Int, y_ = (l0.drop (x5_1 : Int).toNat) := ⟨_, rfl⟩
          replace H : (if y405.length + y408.length < 17592186044416 then (some (y405 ++ y408)) else (none)) = some r := by first | (rw [hy408]; with_reducible exact H) | (have H2_ := (Option.bind_some _ _).symm.trans H; rw [hy408]; with_reducible exact H2_) | (have H2_ := (Option.bind_some _ _).symm.trans H; with_reducible exact H2_) | with_reducible exact H | (rw [hy408]; exact H) | exact H
          have Ny408 := Aside0.mk hy408
          clear hy408
          by_cases c15 : y405.length + y408.length < 17592186044416
          ·rw [if_pos c15] at H
           have LMc15 := Aside0.mk c15
           clear c15
           obtain ⟨y412, hy412⟩ : ∃ y_ : List Int, y_ = (y405 ++ y408) := ⟨_, rfl⟩
           replace H : (some y412) = some r := by first | (rw [hy412]; with_reducible exact H) | (have H2_ := (Option.bind_some _ _).symm.trans H; rw [hy412]; with_reducible exact H2_) | (have H2_ := (Option.bind_some _ _).symm.trans H; with_reducible exact H2_) | with_reducible exact H | (rw [hy412]; exact H) | exact H
           have Ny412 := Aside0.mk hy412
           clear hy412
           obtain rfl := Option.some.inj H
           obtain ⟨Ao16, co16, eo16⟩ := Kd.R_slice HO_0.out
           subst eo16
           have p393 : 0 ≤ (x5_1 : Int) := oD_
           have q393 : x5_1 < (l0.length : Int) := oD_
           obtain ⟨ad393, e393, hx393_0⟩ := Kd.at_int (Kd.R_reads' HO_0.out).2.2 x5_1 p393 q393
           cases e393
           replace p393 := eq_true p393
           replace q393 := eq_true q393
           have p394 : 0 ≤ (x5_1 : Int) := oD_
           have q394 : x5_1 < (l0.length : Int) := oD_
           obtain ⟨ad394, e394, hx394_0⟩ := Kd.at_int (Kd.R_reads' HO_0.out).2.2 x5_1 p394 q394
           obtain rfl : ad393 = ad394 := (by injection e394)
           replace p394 := eq_true p394
           replace q394 := eq_true q394
           go_wp2_with (first | ((with_reducible refine gate_dst (N := 34) rfl ?_); refine Kd.R_lit (Kd.int .i64) _ 3 ?hg (N := 34) ?hd (xs := ([] : List Int)) (inner := []) (ok := fun _ => True) (okp := fun _ => True) ?hr ?hp (fun _ hk => hk) trivial (Below.refl _ _) (Nat.le_refl _) (by simp) ?_; (case hd => rfl); (case hg => rfl); (case hr => first | (go_simp; done) | (go_simp; rfl)); (case hp => exact (Reps.none _ _)); intro v396 w17 ho18 hb hg_ hnew_; clear hg_ hnew_; (first | rw [← Ny395.out] at ho18 | (simp only [Int.reduceToNat] at ho18; rw [← Ny395.out] at ho18)); have n0_ := Aside0.mk (Kd.R_elder' (uR_ HO_0.out) (Kd.R_base ho18) hb); have n1_ := Aside0.mk (Kd.R_lower (Kd.R_new' (Kd.R_newM (M := fun k_ => (P0_ k_ ∨ w.heap.size ≤ k_)) ho18 (by first | exact HK.out.1 | exact (show Kept w _ (fun k_ => P0_ k_) from by repeat (first | (with_reducible first | exact HK.out | apply Kept.alloc | apply Kept.drewN | apply Kept.drew) | exact HK.out)).1) (fun k_ h_ => .inr h_)) (Kd.R_lt (uR_ HO_0.out))) (qal hB_)); have n2_ := Aside0.mk (Kept.below (S := (fun k_ => P0_ k_)) (by repeat (first | (with_reducible first | exact HK.out | apply Kept.alloc | apply Kept.drewN | apply Kept.drew) | exact HK.out)) hb); have n3_ := Aside0.mk (qak hB_ hb); clear HO_0; clear HK; clear HB; have HO_0 := n0_; have HO397 := n1_; have HK := n2_; have HB := n3_; clear n0_ n1_ n2_ n3_; clear hb ho18; have q19 : (x5_1 : Int) ≤ ((l0.length : Int) : Int) := oD_; obtain ⟨i019, hi019, _, hsz19, _⟩ := info_parts info3; have hroom19 : l0.length ≤ co16 := (Kd.R_reads' HO_0.out).2.1; have hC19 : Kd.C (Kd.int .i64) _ (some ad393) l0.length l0 := (Kd.R_reads' HO_0.out).2.2; have hcut19 := cut_to (P := Tryd.prog) 36 3 .i64 Tryd.underlying36 hi019 (some ad393) l0.length co16 x5_1 (oD_) q19 hroom19; have hr19 := Kd.C_take (m := (x5_1 : Int).toNat) hC19 (by omega); have hy19 : y398.length = (x5_1 : Int).toNat := (by rw [Ny398.out, List.length_take]; omega); rw [← Ny398.out] at hr19; rw [← hy19] at hcut19; have HR401 := Aside0.mk hr19; have HC401 := Aside0.mk (show y398.length ≤ co16 from by omega); clear hr19 hC19 hroom19 hi019 hsz19; have KY19 := Aside0.mk hy19; clear hy19; have KL19 := Aside0.mk (show (x5_1 : Int).toNat ≤ l0.length from by omega); replace q19 := eq_true q19) | ((with_reducible refine gate_builtin (b := .append) (xs := #[.tmp 34, .tmp 37]) rfl ?_); at_builtin; refine Kd.R_append_rows (Kd.int .i64) (w0 := w0) w0.heap.size rfl (.tmp 34) (.tmp 37) 36 3 (.int .i64 0) 8 rfl Tryd.underlying36 info3 rfl (by decide) (by omega) v396 y395 y398 _ _ _ (fun k_ => (P0_ k_ ∨ w.heap.size ≤ k_) ∧ some k_ ≠ (.slice (some ad393) l0.length co16 : Value).ownBlock) (fun _ => False) rfl rfl ?aO ?aR (fun _ _ h => h) (fun _ h => h.elim) ?aF ?aB ?aS ?aL ?_; (case aR => repeat (first | exact (by repeat (first | (with_reducible exact HR401.out) | (with_reducible refine Kd.C_alloc ?_ _) | (with_reducible refine Kd.C_drewN ?_ _) | (with_reducible refine Kd.C_drew ?_) | exact HR401.out)) | (with_reducible refine Kd.C_alloc ?_ _) | (with_reducible refine Kd.C_drewN ?_ _) | (with_reducible refine Kd.C_drew ?_))); (case aB => exact hB_); (case aF => exact (fun k_ hk => ⟨(.inr (Nat.le_trans (by first | exact HK.out.1 | exact (show Kept w _ (fun k_ => P0_ k_) from by repeat (first | (with_reducible first | exact HK.out | apply Kept.alloc | apply Kept.drewN | apply Kept.drew) | exact HK.out)).1) hk)), Kd.fresh' (Kd.R_lt (uR_ HO_0.out)) k_ hk⟩)); (case aO => exact (by (with_reducible repeat (first | apply Kd.qat | apply Kd.qas | apply Kd.R_drew)); exact Kd.R_mono HO397.out (fun _ hk => ⟨hk.1.1, hk.2⟩))); (case aS => exact (qal hB_)); (case aL => have := LMc11.out; omega); intro v403 w20 ho hb hg hat; rw [← Ny402.out] at ho; have n0_ := Aside0.mk (Kd.R_after (ok := (fun k_ => (P0_ k_ ∨ w.heap.size ≤ k_))) (uR_ HO_0.out) hg hat); have n1_ := Aside0.mk (hb); have n2_ := Aside0.mk (Kept.of_grown (S := (fun k_ => P0_ k_)) hg (by repeat (first | (with_reducible first | exact HK.out | apply Kept.alloc | apply Kept.drewN | apply Kept.drew) | exact HK.out)) (fun k_ e_ => (HO397.out.1 k_ e_).1.1)); have n3_ := Aside0.mk ((show Kd.C (Kd.int .i64) w20 (some ad393) y398.length y398 from by rw [Ny398.out]; exact Kd.C_take (m := (x5_1 : Int).toNat) ((Kd.R_reads' (Kd.R_after (ok := (fun k_ => (P0_ k_ ∨ w.heap.size ≤ k_))) (uR_ HO_0.out) hg hat)).2.2) KL19.out)); have n4_ := Aside0.mk (ho); clear HO_0; clear HB; clear HK; clear HR401; clear HO397; have HO_0 := n0_; have HB := n1_; have HK := n2_; have HR401 := n3_; have HO404 := n4_; clear n0_ n1_ n2_ n3_ n4_; clear ho hb hg hat) | ((with_reducible refine gate_builtin (b := .append) (xs := #[.tmp 39, .tmp 41]) rfl ?_); at_builtin; refine Kd.R_append (Kd.int .i64) (w0 := w0) w0.heap.size rfl (.tmp 39) (.tmp 41) 36 3 (.int .i64 0) 8 rfl Tryd.underlying36 info3 rfl (by decide) (by omega) v403 y402 a1 [.int .i64 a1] (fun k_ => (P0_ k_ ∨ w.heap.size ≤ k_) ∧ some k_ ≠ (.slice (some ad393) l0.length co16 : Value).ownBlock) (fun _ => False) rfl rfl ?aP (fun _ hk => hk.elim) ?aF ?aO ?aB ?aS ?aL ?_; (case aP => exact rfl); (case aB => exact hB_); (case aF => exact (fun k_ hk => ⟨(.inr (Nat.le_trans (by first | exact HK.out.1 | exact (show Kept w _ (fun k_ => P0_ k_) from by repeat (first | (with_reducible first | exact HK.out | apply Kept.alloc | apply Kept.drewN | apply Kept.drew) | exact HK.out)).1) hk)), Kd.fresh' (Kd.R_lt (uR_ HO_0.out)) k_ hk⟩)); (case aO => exact (uR_ HO404.out)); (case aS => exact (qal hB_)); (case aL => have := LMc12.out; omega); intro v406 w21 ho hb hg hat; rw [← Ny405.out] at ho; have n0_ := Aside0.mk (Kd.R_after (ok := (fun k_ => (P0_ k_ ∨ w.heap.size ≤ k_))) (uR_ HO_0.out) hg hat); have n1_ := Aside0.mk (hb); have n2_ := Aside0.mk (Kept.of_grown (S := (fun k_ => P0_ k_)) hg (by repeat (first | (with_reducible first | exact HK.out | apply Kept.alloc | apply Kept.drewN | apply Kept.drew) | exact HK.out)) (fun k_ e_ => (HO404.out.1 k_ e_).1)); have n3_ := Aside0.mk ((show Kd.C (Kd.int .i64) w21 (some ad393) y398.length y398 from by rw [Ny398.out]; exact Kd.C_take (m := (x5_1 : Int).toNat) ((Kd.R_reads' (Kd.R_after (ok := (fun k_ => (P0_ k_ ∨ w.heap.size ≤ k_))) (uR_ HO_0.out) hg hat)).2.2) KL19.out)); have n4_ := Aside0.mk (ho); clear HO_0; clear HB; clear HK; clear HR401; clear HO404; have HO_0 := n0_; have HB := n1_; have HK := n2_; have HR401 := n3_; have HO407 := n4_; clear n0_ n1_ n2_ n3_ n4_; clear ho hb hg hat; have q22 : (x5_1 : Int) ≤ ((l0.length : Int) : Int) := oD_; obtain ⟨i022, hi022, _, hsz22, _⟩ := info_parts info3; have hroom22 : l0.length ≤ co16 := (Kd.R_reads' HO_0.out).2.1; have hC22 : Kd.C (Kd.int .i64) _ (some ad393) l0.length l0 := (Kd.R_reads' HO_0.out).2.2; have q022 : (0 : Int) ≤ (x5_1 : Int) := oD_; have hcut22 := cut_from (P := Tryd.prog) 36 3 .i64 Tryd.underlying36 hi022 1 hsz22 (some ad393) l0.length co16 x5_1 q022 q22; have hr22 := Kd.C_drop (m := (x5_1 : Int).toNat) (c := co16) hC22 (by omega) hroom22; obtain ⟨A22, hA22⟩ : ∃ A1, A1 = (if co16 = (x5_1 : Int).toNat then (some ad393) else ((some ad393) : Option Addr).map (·.add ((x5_1 : Int).toNat * 1))) := ⟨_, rfl⟩; obtain ⟨c22, hc22⟩ : ∃ c1, c1 = co16 - (x5_1 : Int).toNat := ⟨_, rfl⟩; have hy22 : y408.length = l0.length - (x5_1 : Int).toNat := (by rw [Ny408.out, List.length_drop] <;> omega); rw [show (l0).drop (x5_1 : Int).toNat = y408 from Ny408.out.symm] at hr22; replace hr22 : Kd.C (Kd.int .i64) _ A22 y408.length y408 := (by rw [hA22]; exact hr22); rw [← hy22, ← hA22, ← hc22] at hcut22; have HR411 := Aside0.mk hr22; have HC411 := Aside0.mk (show y408.length ≤ c22 from by rw [hy22, hc22]; exact Nat.sub_le_sub_right hroom22 _); clear hr22 hC22 hroom22 hi022 hsz22 hc22; have KY22 := Aside0.mk hy22; have KA22 := Aside0.mk hA22; clear hy22 hA22; have KL22 := Aside0.mk (show (x5_1 : Int).toNat ≤ l0.length from by omega); replace q22 := eq_true q22) | ((with_reducible refine gate_builtin (b := .append) (xs := #[.tmp 43, .tmp 46]) rfl ?_); at_builtin; refine Kd.R_append_rows (Kd.int .i64) (w0 := w0) w0.heap.size rfl (.tmp 43) (.tmp 46) 36 3 (.int .i64 0) 8 rfl Tryd.underlying36 info3 rfl (by decide) (by omega) v406 y405 y408 _ _ _ (fun k_ => (P0_ k_ ∨ w.heap.size ≤ k_) ∧ some k_ ≠ (.slice (some ad393) l0.length co16 : Value).ownBlock) (fun _ => False) rfl rfl ?aO ?aR (fun _ _ h => h) (fun _ h => h.elim) ?aF ?aB ?aS ?aL ?_; (case aR => repeat (first | exact (by repeat (first | (with_reducible exact HR411.out) | (with_reducible refine Kd.C_alloc ?_ _) | (with_reducible refine Kd.C_drewN ?_ _) | (with_reducible refine Kd.C_drew ?_) | exact HR411.out)) | (with_reducible refine Kd.C_alloc ?_ _) | (with_reducible refine Kd.C_drewN ?_ _) | (with_reducible refine Kd.C_drew ?_))); (case aB => exact hB_); (case aF => exact (fun k_ hk => ⟨(.inr (Nat.le_trans (by first | exact HK.out.1 | exact (show Kept w _ (fun k_ => P0_ k_) from by repeat (first | (with_reducible first | exact HK.out | apply Kept.alloc | apply Kept.drewN | apply Kept.drew) | exact HK.out)).1) hk)), Kd.fresh' (Kd.R_lt (uR_ HO_0.out)) k_ hk⟩)); (case aO => exact (uR_ HO407.out)); (case aS => exact (qal hB_)); (case aL => have := LMc15.out; omega); intro v413 w23 ho hb hg hat; rw [← Ny412.out] at ho; have n0_ := Aside0.mk (Kd.R_after (ok := (fun k_ => (P0_ k_ ∨ w.heap.size ≤ k_))) (uR_ HO_0.out) hg hat); have n1_ := Aside0.mk (hb); have n2_ := Aside0.mk (Kept.of_grown (S := (fun k_ => P0_ k_)) hg (by repeat (first | (with_reducible first | exact HK.out | apply Kept.alloc | apply Kept.drewN | apply Kept.drew) | exact HK.out)) (fun k_ e_ => (HO407.out.1 k_ e_).1)); have n3_ := Aside0.mk ((show Kd.C (Kd.int .i64) w23 (some ad393) y398.length y398 from by rw [Ny398.out]; exact Kd.C_take (m := (x5_1 : Int).toNat) ((Kd.R_reads' (Kd.R_after (ok := (fun k_ => (P0_ k_ ∨ w.heap.size ≤ k_))) (uR_ HO_0.out) hg hat)).2.2) KL19.out)); have n4_ := Aside0.mk ((show Kd.C (Kd.int .i64) w23 A22 y408.length y408 from by rw [Ny408.out, KA22.out]; exact Kd.C_drop (m := (x5_1 : Int).toNat) (c := co16) ((Kd.R_reads' (Kd.R_after (ok := (fun k_ => (P0_ k_ ∨ w.heap.size ≤ k_))) (uR_ HO_0.out) hg hat)).2.2) KL22.out ((Kd.R_reads' (Kd.R_after (ok := (fun k_ => (P0_ k_ ∨ w.heap.size ≤ k_))) (uR_ HO_0.out) hg hat)).2.1))); have n5_ := Aside0.mk (ho); clear HO_0; clear HB; clear HK; clear HR401; clear HR411; clear HO407; have HO_0 := n0_; have HB := n1_; have HK := n2_; have HR401 := n3_; have HR411 := n4_; have HO414 := n5_; clear n0_ n1_ n2_ n3_ n4_ n5_; clear ho hb hg hat))
           go_ret
           exact ⟨_, by first | rfl | (simp [errW_none, errW_some] <;> rfl) | (simp [*, errW_none, errW_some] <;> rfl), by (with_reducible repeat (first | apply Kd.qat | apply Kd.qas | apply Kd.R_drew)); exact Kd.R_mono HO414.out (fun _ hk => hk.1), by repeat (first | (with_reducible first | exact HB.out | apply qad | apply qaa | apply qac) | exact HB.out), by repeat (first | (with_reducible first | exact HK.out | apply Kept.alloc | apply Kept.drewN | apply Kept.drew) | exact HK.out)⟩
          ·rw [if_neg c15] at H
           exact absurd H (by simp)
         ·rw [if_neg c12] at H
          exact absurd H (by simp)
        ·rw [if_neg c11] at H
         exact absurd H (by simp)
       ·rw [if_neg c10] at H
        exact absurd H (by simp)
    ·rw [if_neg c4] at H
     exact absurd H (by simp)
   ·rw [if_neg c3] at H
    have c3b0 : decide (x5_1 < (l0.length : Int)) = false := decide_eq_false c3
    clear c3
    obtain ⟨y415, hy415⟩ : ∃ y_ : List Int, y_ = (([] : List Int)) := ⟨_, rfl⟩
    replace H : (if 0 ≤ x5_1 then (if x5_1 ≤ (l0.length : Int) then ((some (l0.take (x5_1 : Int).toNat : List Int)).bind fun y418 => (if y415.length + y418.length < 17592186044416 then ((some (y415 ++ y418 : List Int)).bind fun y422 => (if y422.length < 17592186044416 then ((some (y422 ++ [a1] : List Int)).bind fun y425 => ((some (l0.drop (x5_1 : Int).toNat : List Int)).bind fun y428 => (if y425.length + y428.length < 17592186044416 then (some (y425 ++ y428)) else (none)))) else (none))) else (none))) else (none)) else (none)) = some r := by first | (rw [hy415]; with_reducible exact H) | (have H2_ := (Option.bind_some _ _).symm.trans H; rw [hy415]; with_reducible exact H2_) | (have H2_ := (Option.bind_some _ _).symm.trans H; with_reducible exact H2_) | with_reducible exact H | (rw [hy415]; exact H) | exact H
    have Ny415 := Aside0.mk hy415
    clear hy415
    by_cases c24 : 0 ≤ x5_1
    ·rw [if_pos c24] at H
     have c24b0 := eq_true c24
     have c24b1 : decide (0 ≤ x5_1) = true := decide_eq_true c24
     clear c24
     by_cases c25 : x5_1 ≤ (l0.length : Int)
     ·rw [if_pos c25] at H
      have c25b0 := eq_true c25
      have c25b1 : decide (x5_1 ≤ (l0.length : Int)) = true := decide_eq_true c25
      clear c25
      obtain ⟨y418, hy418⟩ : ∃ y_ : List Int, y_ = (l0.take (x5_1 : Int).toNat) := ⟨_, rfl⟩
      replace H : (if y415.length + y418.length < 17592186044416 then ((some (y415 ++ y418 : List Int)).bind fun y422 => (if y422.length < 17592186044416 then ((some (y422 ++ [a1] : List Int)).bind fun y425 => ((some (l0.drop (x5_1 : Int).toNat : List Int)).bind fun y428 => (if y425.length + y428.length < 17592186044416 then (some (y425 ++ y428)) else (none)))) else (none))) else (none)) = some r := by first | (rw [hy418]; with_reducible exact H) | (have H2_ := (Option.bind_some _ _).symm.trans H; rw [hy418]; with_reducible exact H2_) | (have H2_ := (Option.bind_some _ _).symm.trans H; with_reducible exact H2_) | with_reducible exact H | (rw [hy418]; exact H) | exact H
      have Ny418 := Aside0.mk hy418
      clear hy418
      by_cases c26 : y415.length + y418.length < 17592186044416
      ·rw [if_pos c26] at H
       have LMc26 := Aside0.mk c26
       clear c26
       obtain ⟨y422, hy422⟩ : ∃ y_ : List Int, y_ = (y415 ++ y418) := ⟨_, rfl⟩
       replace H : (if y422.length < 17592186044416 then ((some (y422 ++ [a1] : List Int)).bind fun y425 => ((some (l0.drop (x5_1 : Int).toNat : List Int)).bind fun y428 => (if y425.length + y428.length < 17592186044416 then (some (y425 ++ y428)) else (none)))) else (none)) = some r := by first | (rw [hy422]; with_reducible exact H) | (have H2_ := (Option.bind_some _ _).symm.trans H; rw [hy422]; with_reducible exact H2_) | (have H2_ := (Option.bind_some _ _).symm.trans H; with_reducible exact H2_) | with_reducible exact H | (rw [hy422]; exact H) | exact H
       have Ny422 := Aside0.mk hy422
       clear hy422
       by_cases c27 : y422.length < 17592186044416
       ·rw [if_pos c27] at H
        have LMc27 := Aside0.mk c27
        clear c27
        obtain ⟨y425, hy425⟩ : ∃ y_ : List Int, y_ = (y422 ++ [a1]) := ⟨_, rfl⟩
        replace H : ((some (l0.drop (x5_1 : Int).toNat : List Int)).bind fun y428 => (if y425.length + y428.length < 17592186044416 then (some (y425 ++ y428)) else (none))) = some r := by first | (rw [hy425]; with_reducible exact H) | (have H2_ := (Option.bind_some _ _).symm.trans H; rw [hy425]; with_reducible exact H2_) | (have H2_ := (Option.bind_some _ _).symm.trans H; with_reducible exact H2_) | with_reducible exact H | (rw [hy425]; exact H) | exact H
        have Ny425 := Aside0.mk hy425
        clear hy425
        have c28b0 := eq_true (oD_ : 0 ≤ x5_1)
        have c29b0 := eq_true (oD_ : x5_1 ≤ (l0.length : Int))
        obtain ⟨y428, hy428⟩ : ∃ y_ : List Int, y_ = (l0.drop (x5_1 : Int).toNat) := ⟨_, rfl⟩
        replace H : (if y425.length + y428.length < 17592186044416 then (some (y425 ++ y428)) else (none)) = some r := by first | (rw [hy428]; with_reducible exact H) | (have H2_ := (Option.bind_some _ _).symm.trans H; rw [hy428]; with_reducible exact H2_) | (have H2_ := (Option.bind_some _ _).symm.trans H; with_reducible exact H2_) | with_reducible exact H | (rw [hy428]; exact H) | exact H
        have Ny428 := Aside0.mk hy428
        clear hy428
        by_cases c30 : y425.length + y428.length < 17592186044416
        ·rw [if_pos c30] at H
         have LMc30 := Aside0.mk c30
         clear c30
         obtain ⟨y432, hy432⟩ : ∃ y_ : List Int, y_ = (y425 ++ y428) := ⟨_, rfl⟩
         replace H : (some y432) = some r := by first | (rw [hy432]; with_reducible exact H) | (have H2_ := (Option.bind_some _ _).symm.trans H; rw [hy432]; with_reducible exact H2_) | (have H2_ := (Option.bind_some _ _).symm.trans H; with_reducible exact H2_) | with_reducible exact H | (rw [hy432]; exact H) | exact H
         have Ny432 := Aside0.mk hy432
         clear hy432
         obtain rfl := Option.some.inj H
         obtain ⟨Ao31, co31, eo31⟩ := Kd.R_slice HO_0.out
         subst eo31
         go_wp2_with (first | ((with_reducible refine gate_dst (N := 34) rfl ?_); refine Kd.R_lit (Kd.int .i64) _ 3 ?hg (N := 34) ?hd (xs := ([] : List Int)) (inner := []) (ok := fun _ => True) (okp := fun _ => True) ?hr ?hp (fun _ hk => hk) trivial (Below.refl _ _) (Nat.le_refl _) (by simp) ?_; (case hd => rfl); (case hg => rfl); (case hr => first | (go_simp; done) | (go_simp; rfl)); (case hp => exact (Reps.none _ _)); intro v416 w32 ho33 hb hg_ hnew_; clear hg_ hnew_; (first | rw [← Ny415.out] at ho33 | (simp only [Int.reduceToNat] at ho33; rw [← Ny415.out] at ho33)); have n0_ := Aside0.mk (Kd.R_elder' (uR_ HO_0.out) (Kd.R_base ho33) hb); have n1_ := Aside0.mk (Kd.R_lower (Kd.R_new' (Kd.R_newM (M := fun k_ => (P0_ k_ ∨ w.heap.size ≤ k_)) ho33 (by first | exact HK.out.1 | exact (show Kept w _ (fun k_ => P0_ k_) from by repeat (first | (with_reducible first | exact HK.out | apply Kept.alloc | apply Kept.drewN | apply Kept.drew) | exact HK.out)).1) (fun k_ h_ => .inr h_)) (Kd.R_lt (uR_ HO_0.out))) (qal hB_)); have n2_ := Aside0.mk (Kept.below (S := (fun k_ => P0_ k_)) (by repeat (first | (with_reducible first | exact HK.out | apply Kept.alloc | apply Kept.drewN | apply Kept.drew) | exact HK.out)) hb); have n3_ := Aside0.mk (qak hB_ hb); clear HO_0; clear HK; clear HB; have HO_0 := n0_; have HO417 := n1_; have HK := n2_; have HB := n3_; clear n0_ n1_ n2_ n3_; clear hb ho33; have q34 : (x5_1 : Int) ≤ ((l0.length : Int) : Int) := oD_; obtain ⟨i034, hi034, _, hsz34, _⟩ := info_parts info3; have hroom34 : l0.length ≤ co31 := (Kd.R_reads' HO_0.out).2.1; have hC34 : Kd.C (Kd.int .i64) _ Ao31 l0.length l0 := (Kd.R_reads' HO_0.out).2.2; have hcut34 := cut_to (P := Tryd.prog) 36 3 .i64 Tryd.underlying36 hi034 Ao31 l0.length co31 x5_1 (oD_) q34 hroom34; have hr34 := Kd.C_take (m := (x5_1 : Int).toNat) hC34 (by omega); have hy34 : y418.length = (x5_1 : Int).toNat := (by rw [Ny418.out, List.length_take]; omega); rw [← Ny418.out] at hr34; rw [← hy34] at hcut34; have HR421 := Aside0.mk hr34; have HC421 := Aside0.mk (show y418.length ≤ co31 from by omega); clear hr34 hC34 hroom34 hi034 hsz34; have KY34 := Aside0.mk hy34; clear hy34; have KL34 := Aside0.mk (show (x5_1 : Int).toNat ≤ l0.length from by omega); replace q34 := eq_true q34) | ((with_reducible refine gate_builtin (b := .append) (xs := #[.tmp 34, .tmp 37]) rfl ?_); at_builtin; refine Kd.R_append_rows (Kd.int .i64) (w0 := w0) w0.heap.size rfl (.tmp 34) (.tmp 37) 36 3 (.int .i64 0) 8 rfl Tryd.underlying36 info3 rfl (by decide) (by omega) v416 y415 y418 _ _ _ (fun k_ => (P0_ k_ ∨ w.heap.size ≤ k_) ∧ some k_ ≠ (.slice Ao31 l0.length co31 : Value).ownBlock) (fun _ => False) rfl rfl ?aO ?aR (fun _ _ h => h) (fun _ h => h.elim) ?aF ?aB ?aS ?aL ?_; (case aR => repeat (first | exact (by repeat (first | (with_reducible exact HR421.out) | (with_reducible refine Kd.C_alloc ?_ _) | (with_reducible refine Kd.C_drewN ?_ _) | (with_reducible refine Kd.C_drew ?_) | exact HR421.out)) | (with_reducible refine Kd.C_alloc ?_ _) | (with_reducible refine Kd.C_drewN ?_ _) | (with_reducible refine Kd.C_drew ?_))); (case aB => exact hB_); (case aF => exact (fun k_ hk => ⟨(.inr (Nat.le_trans (by first | exact HK.out.1 | exact (show Kept w _ (fun k_ => P0_ k_) from by repeat (first | (with_reducible first | exact HK.out | apply Kept.alloc | apply Kept.drewN | apply Kept.drew) | exact HK.out)).1) hk)), Kd.fresh' (Kd.R_lt (uR_ HO_0.out)) k_ hk⟩)); (case aO => exact (by (with_reducible repeat (first | apply Kd.qat | apply Kd.qas | apply Kd.R_drew)); exact Kd.R_mono HO417.out (fun _ hk => ⟨hk.1.1, hk.2⟩))); (case aS => exact (qal hB_)); (case aL => have := LMc26.out; omega); intro v423 w35 ho hb hg hat; rw [← Ny422.out] at ho; have n0_ := Aside0.mk (Kd.R_after (ok := (fun k_ => (P0_ k_ ∨ w.heap.size ≤ k_))) (uR_ HO_0.out) hg hat); have n1_ := Aside0.mk (hb); have n2_ := Aside0.mk (Kept.of_grown (S := (fun k_ => P0_ k_)) hg (by repeat (first | (with_reducible first | exact HK.out | apply Kept.alloc | apply Kept.drewN | apply Kept.drew) | exact HK.out)) (fun k_ e_ => (HO417.out.1 k_ e_).1.1)); have n3_ := Aside0.mk ((show Kd.C (Kd.int .i64) w35 Ao31 y418.length y418 from by rw [Ny418.out]; exact Kd.C_take (m := (x5_1 : Int).toNat) ((Kd.R_reads' (Kd.R_after (ok := (fun k_ => (P0_ k_ ∨ w.heap.size ≤ k_))) (uR_ HO_0.out) hg hat)).2.2) KL34.out)); have n4_ := Aside0.mk (ho); clear HO_0; clear HB; clear HK; clear HR421; clear HO417; have HO_0 := n0_; have HB := n1_; have HK := n2_; have HR421 := n3_; have HO424 := n4_; clear n0_ n1_ n2_ n3_ n4_; clear ho hb hg hat) | ((with_reducible refine gate_builtin (b := .append) (xs := #[.tmp 39, .tmp 41]) rfl ?_); at_builtin; refine Kd.R_append (Kd.int .i64) (w0 := w0) w0.heap.size rfl (.tmp 39) (.tmp 41) 36 3 (.int .i64 0) 8 rfl Tryd.underlying36 info3 rfl (by decide) (by omega) v423 y422 a1 [.int .i64 a1] (fun k_ => (P0_ k_ ∨ w.heap.size ≤ k_) ∧ some k_ ≠ (.slice Ao31 l0.length co31 : Value).ownBlock) (fun _ => False) rfl rfl ?aP (fun _ hk => hk.elim) ?aF ?aO ?aB ?aS ?aL ?_; (case aP => exact rfl); (case aB => exact hB_); (case aF => exact (fun k_ hk => ⟨(.inr (Nat.le_trans (by first | exact HK.out.1 | exact (show Kept w _ (fun k_ => P0_ k_) from by repeat (first | (with_reducible first | exact HK.out | apply Kept.alloc | apply Kept.drewN | apply Kept.drew) | exact HK.out)).1) hk)), Kd.fresh' (Kd.R_lt (uR_ HO_0.out)) k_ hk⟩)); (case aO => exact (uR_ HO424.out)); (case aS => exact (qal hB_)); (case aL => have := LMc27.out; omega); intro v426 w36 ho hb hg hat; rw [← Ny425.out] at ho; have n0_ := Aside0.mk (Kd.R_after (ok := (fun k_ => (P0_ k_ ∨ w.heap.size ≤ k_))) (uR_ HO_0.out) hg hat); have n1_ := Aside0.mk (hb); have n2_ := Aside0.mk (Kept.of_grown (S := (fun k_ => P0_ k_)) hg (by repeat (first | (with_reducible first | exact HK.out | apply Kept.alloc | apply Kept.drewN | apply Kept.drew) | exact HK.out)) (fun k_ e_ => (HO424.out.1 k_ e_).1)); have n3_ := Aside0.mk ((show Kd.C (Kd.int .i64) w36 Ao31 y418.length y418 from by rw [Ny418.out]; exact Kd.C_take (m := (x5_1 : Int).toNat) ((Kd.R_reads' (Kd.R_after (ok := (fun k_ => (P0_ k_ ∨ w.heap.size ≤ k_))) (uR_ HO_0.out) hg hat)).2.2) KL34.out)); have n4_ := Aside0.mk (ho); clear HO_0; clear HB; clear HK; clear HR421; clear HO424; have HO_0 := n0_; have HB := n1_; have HK := n2_; have HR421 := n3_; have HO427 := n4_; clear n0_ n1_ n2_ n3_ n4_; clear ho hb hg hat; have q37 : (x5_1 : Int) ≤ ((l0.length : Int) : Int) := oD_; obtain ⟨i037, hi037, _, hsz37, _⟩ := info_parts info3; have hroom37 : l0.length ≤ co31 := (Kd.R_reads' HO_0.out).2.1; have hC37 : Kd.C (Kd.int .i64) _ Ao31 l0.length l0 := (Kd.R_reads' HO_0.out).2.2; have q037 : (0 : Int) ≤ (x5_1 : Int) := oD_; have hcut37 := cut_from (P := Tryd.prog) 36 3 .i64 Tryd.underlying36 hi037 1 hsz37 Ao31 l0.length co31 x5_1 q037 q37; have hr37 := Kd.C_drop (m := (x5_1 : Int).toNat) (c := co31) hC37 (by omega) hroom37; obtain ⟨A37, hA37⟩ : ∃ A1, A1 = (if co31 = (x5_1 : Int).toNat then Ao31 else (Ao31 : Option Addr).map (·.add ((x5_1 : Int).toNat * 1))) := ⟨_, rfl⟩; obtain ⟨c37, hc37⟩ : ∃ c1, c1 = co31 - (x5_1 : Int).toNat := ⟨_, rfl⟩; have hy37 : y428.length = l0.length - (x5_1 : Int).toNat := (by rw [Ny428.out, List.length_drop] <;> omega); rw [show (l0).drop (x5_1 : Int).toNat = y428 from Ny428.out.symm] at hr37; replace hr37 : Kd.C (Kd.int .i64) _ A37 y428.length y428 := (by rw [hA37]; exact hr37); rw [← hy37, ← hA37, ← hc37] at hcut37; have HR431 := Aside0.mk hr37; have HC431 := Aside0.mk (show y428.length ≤ c37 from by rw [hy37, hc37]; exact Nat.sub_le_sub_right hroom37 _); clear hr37 hC37 hroom37 hi037 hsz37 hc37; have KY37 := Aside0.mk hy37; have KA37 := Aside0.mk hA37; clear hy37 hA37; have KL37 := Aside0.mk (show (x5_1 : Int).toNat ≤ l0.length from by omega); replace q37 := eq_true q37) | ((with_reducible refine gate_builtin (b := .append) (xs := #[.tmp 43, .tmp 46]) rfl ?_); at_builtin; refine Kd.R_append_rows (Kd.int .i64) (w0 := w0) w0.heap.size rfl (.tmp 43) (.tmp 46) 36 3 (.int .i64 0) 8 rfl Tryd.underlying36 info3 rfl (by decide) (by omega) v426 y425 y428 _ _ _ (fun k_ => (P0_ k_ ∨ w.heap.size ≤ k_) ∧ some k_ ≠ (.slice Ao31 l0.length co31 : Value).ownBlock) (fun _ => False) rfl rfl ?aO ?aR (fun _ _ h => h) (fun _ h => h.elim) ?aF ?aB ?aS ?aL ?_; (case aR => repeat (first | exact (by repeat (first | (with_reducible exact HR431.out) | (with_reducible refine Kd.C_alloc ?_ _) | (with_reducible refine Kd.C_drewN ?_ _) | (with_reducible refine Kd.C_drew ?_) | exact HR431.out)) | (with_reducible refine Kd.C_alloc ?_ _) | (with_reducible refine Kd.C_drewN ?_ _) | (with_reducible refine Kd.C_drew ?_))); (case aB => exact hB_); (case aF => exact (fun k_ hk => ⟨(.inr (Nat.le_trans (by first | exact HK.out.1 | exact (show Kept w _ (fun k_ => P0_ k_) from by repeat (first | (with_reducible first | exact HK.out | apply Kept.alloc | apply Kept.drewN | apply Kept.drew) | exact HK.out)).1) hk)), Kd.fresh' (Kd.R_lt (uR_ HO_0.out)) k_ hk⟩)); (case aO => exact (uR_ HO427.out)); (case aS => exact (qal hB_)); (case aL => have := LMc30.out; omega); intro v433 w38 ho hb hg hat; rw [← Ny432.out] at ho; have n0_ := Aside0.mk (Kd.R_after (ok := (fun k_ => (P0_ k_ ∨ w.heap.size ≤ k_))) (uR_ HO_0.out) hg hat); have n1_ := Aside0.mk (hb); have n2_ := Aside0.mk (Kept.of_grown (S := (fun k_ => P0_ k_)) hg (by repeat (first | (with_reducible first | exact HK.out | apply Kept.alloc | apply Kept.drewN | apply Kept.drew) | exact HK.out)) (fun k_ e_ => (HO427.out.1 k_ e_).1)); have n3_ := Aside0.mk ((show Kd.C (Kd.int .i64) w38 Ao31 y418.length y418 from by rw [Ny418.out]; exact Kd.C_take (m := (x5_1 : Int).toNat) ((Kd.R_reads' (Kd.R_after (ok := (fun k_ => (P0_ k_ ∨ w.heap.size ≤ k_))) (uR_ HO_0.out) hg hat)).2.2) KL34.out)); have n4_ := Aside0.mk ((show Kd.C (Kd.int .i64) w38 A37 y428.length y428 from by rw [Ny428.out, KA37.out]; exact Kd.C_drop (m := (x5_1 : Int).toNat) (c := co31) ((Kd.R_reads' (Kd.R_after (ok := (fun k_ => (P0_ k_ ∨ w.heap.size ≤ k_))) (uR_ HO_0.out) hg hat)).2.2) KL37.out ((Kd.R_reads' (Kd.R_after (ok := (fun k_ => (P0_ k_ ∨ w.heap.size ≤ k_))) (uR_ HO_0.out) hg hat)).2.1))); have n5_ := Aside0.mk (ho); clear HO_0; clear HB; clear HK; clear HR421; clear HR431; clear HO427; have HO_0 := n0_; have HB := n1_; have HK := n2_; have HR421 := n3_; have HR431 := n4_; have HO434 := n5_; clear n0_ n1_ n2_ n3_ n4_ n5_; clear ho hb hg hat))
         go_ret
         exact ⟨_, by first | rfl | (simp [errW_none, errW_some] <;> rfl) | (simp [*, errW_none, errW_some] <;> rfl), by (with_reducible repeat (first | apply Kd.qat | apply Kd.qas | apply Kd.R_drew)); exact Kd.R_mono HO434.out (fun _ hk => hk.1), by repeat (first | (with_reducible first | exact HB.out | apply qad | apply qaa | apply qac) | exact HB.out), by repeat (first | (with_reducible first | exact HK.out | apply Kept.alloc | apply Kept.drewN | apply Kept.drew) | exact HK.out)⟩
        ·rw [if_neg c30] at H
         exact absurd H (by simp)
       ·rw [if_neg c27] at H
        exact absurd H (by simp)
      ·rw [if_neg c26] at H
       exact absurd H (by simp)
     ·rw [if_neg c25] at H
      exact absurd H (by simp)
    ·rw [if_neg c24] at H
     exact absurd H (by simp)

end Go.Proofs.YtedfcbbklhfgcaaDoor.Q
namespace Go.Proofs.YtedfcbbklhfgcaaDoor.Q
open Go.RowKit Go.Proofs.YtedfcbbklhfgcaaDoorW.PrintWords Go.Proofs.YtedfcbbklhfgcaaDoorW.PrintLast Go.Proofs.YtedfcbbklhfgcaaDoorW.PrintMore
attribute [local go_sem] max2_int min2_int max_two min_two max_three min_three max_four min_four   -- for this text's walks alone
set_option linter.unusedVariables false
set_option linter.unusedSimpArgs false

/-! ### spec_paParts: function 60 -/
mutual
def spec_paParts.l0 : Nat → List (List Bool) → List Bool → List (List Int) → Int → Int → Option ((List (List Int)))
 | 0, _, _, _, _, _ => none
 | k + 1, x3, x4, x5, x18, x19 => if x19 < x18 then (if 0 ≤ x19 then (if x19 < (x4.length : Int) then (if rdOf false x4 x19 = true then (spec_paParts.l0 k x3 x4 x5 x18 (wrap64 (x19 + 1))) else (spec_paParts.l1 k x3 (x4.set (x19 : Int).toNat true) x5 (([x19] : List Int)) ([] : List Int) 0 x18 x19)) else (none)) else (none)) else (some x5)
def spec_paParts.l1 : Nat → List (List Bool) → List Bool → List (List Int) → List Int → List Int → Int → Int → Int → Option ((List (List Int)))
 | 0, _, _, _, _, _, _, _, _ => none
 | k + 1, x3, x4, x5, x7, x8, x9, x18, x19 => if x9 < (x7.length : Int) then (if 0 ≤ x9 then ((spec_l1Put.f k x8 (rd x7 x9)).bind fun t451 => ((spec_paFriends.f k x3 (rd x7 x9)).bind fun t455 => (spec_paParts.l2 k x3 x4 x5 x7 t451 x9 x18 x19 t455 (t455.length : Int) 0))) else (none)) else (if x5.length < 5864062014805 then (spec_paParts.l0 k x3 x4 (x5 ++ [x8]) x18 (wrap64 (x19 + 1))) else (none))
def spec_paParts.l2 : Nat → List (List Bool) → List Bool → List (List Int) → List Int → List Int → Int → Int → Int → List Int → Int → Int → Option ((List (List Int)))
 | 0, _, _, _, _, _, _, _, _, _, _, _ => none
 | k + 1, x3, x4, x5, x7, x8, x9, x18, x19, x48, x49, x50 => if x50 < x49 then (if 0 ≤ x50 then (if x50 < (x48.length : Int) then (if 0 ≤ (rd x48 x50) then (if (rd x48 x50) < (x4.length : Int) then (if (rdOf false x4 (rd x48 x50) = true) then (spec_paParts.l2 k x3 x4 x5 x7 x8 x9 x18 x19 x48 x49 (wrap64 (x50 + 1))) else (if x7.length < 17592186044416 then (spec_paParts.l2 k x3 (x4.set ((rd x48 x50) : Int).toNat true) x5 (x7 ++ [rd x48 x50]) x8 x9 x18 x19 x48 x49 (wrap64 (x50 + 1))) else (none))) else (none)) else (none)) else (none)) else (none)) else (spec_paParts.l1 k x3 x4 x5 x7 x8 (wrap64 (x9 + 1)) x18 x19)
end
def spec_paParts.f (k : Nat) (a0_0 : Int) (l0_1 : List (S56)) : Option ((List (List Int))) := (spec_paTable.f k a0_0 l0_1).bind fun t436 => (if 0 ≤ a0_0 then (if (a0_0 : Int).toNat ≤ 281474976710656 then (spec_paParts.l0 k t436 (List.replicate (a0_0 : Int).toNat false) ([] : List (List Int)) (t436.length : Int) 0) else (none)) else (none))
theorem spec_paParts.mono_l : ∀ k, (∀ y0 y1 y2 y3 y4, LeO (spec_paParts.l0 k y0 y1 y2 y3 y4) (spec_paParts.l0 (k + 1) y0 y1 y2 y3 y4)) ∧ (∀ y0 y1 y2 y3 y4 y5 y6 y7, LeO (spec_paParts.l1 k y0 y1 y2 y3 y4 y5 y6 y7) (spec_paParts.l1 (k + 1) y0 y1 y2 y3 y4 y5 y6 y7)) ∧ (∀ y0 y1 y2 y3 y4 y5 y6 y7 y8 y9 y10, LeO (spec_paParts.l2 k y0 y1 y2 y3 y4 y5 y6 y7 y8 y9 y10) (spec_paParts.l2 (k + 1) y0 y1 y2 y3 y4 y5 y6 y7 y8 y9 y10))
 | 0 => ⟨fun _ _ _ _ _ r h => by simp [spec_paParts.l0] at h, fun _ _ _ _ _ _ _ _ r h => by simp [spec_paParts.l1] at h, fun _ _ _ _ _ _ _ _ _ _ _ r h => by simp [spec_paParts.l2] at h⟩
 | k + 1 => by
  obtain ⟨ih0, ih1, ih2⟩ := spec_paParts.mono_l k
  refine ⟨?_, ?_, ?_⟩
  ·intro y0 y1 y2 y3 y4
   unfold spec_paParts.l0
   repeat' first
   | (with_reducible exact ih0 _ _ _ _ _)
   | (with_reducible exact ih1 _ _ _ _ _ _ _ _)
   | (with_reducible exact ih2 _ _ _ _ _ _ _ _ _ _ _)
   | (with_reducible exact spec_l1Put.mono _ _ _)
   | (with_reducible exact spec_paFriends.mono _ _ _)
   | (with_reducible exact spec_paTable.mono _ _ _)
   | (with_reducible exact LeO.refl _)
   | (with_reducible exact LeO.none _)
   | (with_reducible refine LeO.ite ?_ ?_)
   | (with_reducible refine LeO.bind ?_ (fun _ => ?_))
   | exact ih0 _ _ _ _ _
   | exact ih1 _ _ _ _ _ _ _ _
   | exact ih2 _ _ _ _ _ _ _ _ _ _ _
   | exact spec_l1Put.mono _ _ _
   | exact spec_paFriends.mono _ _ _
   | exact spec_paTable.mono _ _ _
   | exact LeO.none _
   | refine LeO.ite ?_ ?_
   | refine LeO.bind ?_ (fun _ => ?_)
  ·intro y0 y1 y2 y3 y4 y5 y6 y7
   unfold spec_paParts.l1
   repeat' first
   | (with_reducible exact ih0 _ _ _ _ _)
   | (with_reducible exact ih1 _ _ _ _ _ _ _ _)
   | (with_reducible exact ih2 _ _ _ _ _ _ _ _ _ _ _)
   | (with_reducible exact spec_l1Put.mono _ _ _)
   | (with_reducible exact spec_paFriends.mono _ _ _)
   | (with_reducible exact spec_paTable.mono _ _ _)
   | (with_reducible exact LeO.refl _)
   | (with_reducible exact LeO.none _)
   | (with_reducible refine LeO.ite ?_ ?_)
   | (with_reducible refine LeO.bind ?_ (fun _ => ?_))
   | exact ih0 _ _ _ _ _
   | exact ih1 _ _ _ _ _ _ _ _
   | exact ih2 _ _ _ _ _ _ _ _ _ _ _
   | exact spec_l1Put.mono _ _ _
   | exact spec_paFriends.mono _ _ _
   | exact spec_paTable.mono _ _ _
   | exact LeO.none _
   | refine LeO.ite ?_ ?_
   | refine LeO.bind ?_ (fun _ => ?_)
  ·intro y0 y1 y2 y3 y4 y5 y6 y7 y8 y9 y10
   unfold spec_paParts.l2
   repeat' first
   | (with_reducible exact ih0 _ _ _ _ _)
   | (with_reducible exact ih1 _ _ _ _ _ _ _ _)
   | (with_reducible exact ih2 _ _ _ _ _ _ _ _ _ _ _)
   | (with_reducible exact spec_l1Put.mono _ _ _)
   | (with_reducible exact spec_paFriends.mono _ _ _)
   | (with_reducible exact spec_paTable.mono _ _ _)
   | (with_reducible exact LeO.refl _)
   | (with_reducible exact LeO.none _)
   | (with_reducible refine LeO.ite ?_ ?_)
   | (with_reducible refine LeO.bind ?_ (fun _ => ?_))
   | exact ih0 _ _ _ _ _
   | exact ih1 _ _ _ _ _ _ _ _
   | exact ih2 _ _ _ _ _ _ _ _ _ _ _
   | exact spec_l1Put.mono _ _ _
   | exact spec_paFriends.mono _ _ _
   | exact spec_paTable.mono _ _ _
   | exact LeO.none _
   | refine LeO.ite ?_ ?_
   | refine LeO.bind ?_ (fun _ => ?_)
theorem spec_paParts.mono : ∀ a0 a1 k, LeO (spec_paParts.f k a0 a1) (spec_paParts.f (k + 1) a0 a1) := by
 intro a0 a1 k
 obtain ⟨ih0, ih1, ih2⟩ := spec_paParts.mono_l k
 unfold spec_paParts.f
 repeat' first
   | (with_reducible exact ih0 _ _ _ _ _)
   | (with_reducible exact ih1 _ _ _ _ _ _ _ _)
   | (with_reducible exact ih2 _ _ _ _ _ _ _ _ _ _ _)
   | (with_reducible exact spec_l1Put.mono _ _ _)
   | (with_reducible exact spec_paFriends.mono _ _ _)
   | (with_reducible exact spec_paTable.mono _ _ _)
   | (with_reducible exact LeO.refl _)
   | (with_reducible exact LeO.none _)
   | (with_reducible refine LeO.ite ?_ ?_)
   | (with_reducible refine LeO.bind ?_ (fun _ => ?_))
   | exact ih0 _ _ _ _ _
   | exact ih1 _ _ _ _ _ _ _ _
   | exact ih2 _ _ _ _ _ _ _ _ _ _ _
   | exact spec_l1Put.mono _ _ _
   | exact spec_paFriends.mono _ _ _
   | exact spec_paTable.mono _ _ _
   | exact LeO.none _
   | refine LeO.ite ?_ ?_
   | refine LeO.bind ?_ (fun _ => ?_)
set_option maxHeartbeats 8000000 in
set_option maxRecDepth 100000 in
theorem spec_paParts.calls (k : Nat) (a0_0 : Int) (A0_1 : Option Addr) (c0_1 : Nat) (l0_1 : List (S56)) (r : List (List Int)) (w : World) (hr0_1 : Kd.C k56 w A0_1 l0_1.length l0_1) (hc0_1 : l0_1.length ≤ c0_1) (h : spec_paParts.f k a0_0 l0_1 = some r) :
  Calls Tryd.prog 60 #[.agg #[.int .i64 a0_0, .slice A0_1 l0_1.length c0_1]] w fun e w' => ∃ v0_ : Value, e = .returned (v0_) ∧ Kd.S (Kd.slice 3 (Kd.int .i64)) 36 w' w.heap.size (fun _ => True) v0_ r ∧ Below w.heap.size w w' := by
 have hu30 := Tryd.underlying30
 have HR0_1 := Aside0.mk hr0_1
 have HC0_1 := Aside0.mk hc0_1
 clear hr0_1 hc0_1
 have HB := Aside0.mk (Below.refl w.heap.size w)
 have H : ((spec_paTable.f k a0_0 l0_1).bind fun t436 => (if 0 ≤ a0_0 then (if (a0_0 : Int).toNat ≤ 281474976710656 then (spec_paParts.l0 k t436 (List.replicate (a0_0 : Int).toNat false) ([] : List (List Int)) (t436.length : Int) 0) else (none)) else (none))) = some r := h
 clear h
 replace H := Option.bind_eq_some_iff.mp H
 obtain ⟨t436, A20, H⟩ := H
 replace H : (if 0 ≤ a0_0 then (if (a0_0 : Int).toNat ≤ 281474976710656 then (spec_paParts.l0 k t436 (List.replicate (a0_0 : Int).toNat false) ([] : List (List Int)) (t436.length : Int) 0) else (none)) else (none)) = some r := H
 have A2 := Aside0.mk A20
 clear A20
 by_cases c3 : 0 ≤ a0_0
 ·rw [if_pos c3] at H
  have c3b0 := eq_true c3
  have c3b1 : decide (0 ≤ a0_0) = true := decide_eq_true c3
  clear c3
  by_cases c4 : (a0_0 : Int).toNat ≤ 281474976710656
  ·rw [if_pos c4] at H
   have c4b0 := eq_true c4
   have c4b1 : decide ((a0_0 : Int).toNat ≤ 281474976710656) = true := decide_eq_true c4
   clear c4
   obtain ⟨y439, hy439⟩ : ∃ y_ : List Bool, y_ = (List.replicate (a0_0 : Int).toNat false) := ⟨_, rfl⟩
   replace H : (spec_paParts.l0 k t436 y439 ([] : List (List Int)) (t436.length : Int) 0) = some r := by first | (rw [hy439]; with_reducible exact H) | (have H2_ := (Option.bind_some _ _).symm.trans H; rw [hy439]; with_reducible exact H2_) | (have H2_ := (Option.bind_some _ _).symm.trans H; with_reducible exact H2_) | with_reducible exact H | (rw [hy439]; exact H) | exact H
   have Ny439 := Aside0.mk hy439
   clear hy439
   have H' := Aside0.mk H
   clear H
   go_enter Tryd.func60, Tryd.ntmps60
   go_wp2_with (first | ((with_reducible refine gate_dst (N := 1) rfl ?_); refine box_event ?hg (N := 1) ?hd (cs := #[.int .i64 a0_0, .slice A0_1 l0_1.length c0_1]) (t := 30) ?hr ?_; (case hd => rfl); (case hg => rfl); (case hr => first | (go_simp; done) | (go_simp; rfl)); intro gb435 hg w5 hbox hb; have n0_ := Aside0.mk (qak hB_ hb); have n1_ := Aside0.mk (hbox); have n2_ := Aside0.mk ((by rw [hg]; exact (qal hB_) : w.heap.size ≤ gb435)); have n3_ := n2_; clear HB; have HB := n0_; have BK435 := n1_; have GW435 := n2_; have GE435 := n3_; clear n0_ n1_ n2_ n3_; clear hb hbox hg; have hcz6_0 : w5.cell? ⟨gb435, 0, none⟩ = some (.int .i64 a0_0) := (qab BK435.out 0).trans rfl; have hcz6_1 : w5.cell? ⟨gb435, 1, none⟩ = some (.slice A0_1 l0_1.length c0_1) := (qab BK435.out 1).trans rfl; have hfz6_0 := qaf BK435.out 0; have hfz6_1 := qaf BK435.out 1) | ((with_reducible refine qao (f := 29) rfl ?_); refine goesL_ (some 13) rfl rfl Tryd.func29 (by kernel_rfl) rfl #[.agg #[.int .i64 a0_0, .slice A0_1 l0_1.length c0_1]] rfl mT_ ?_; (with_reducible refine (spec_paTable.calls k a0_0 _ _ l0_1 t436 _ ?side1 ?side2 A2.out).mono ?_); (case side1 => repeat (first | exact (Kd.C_below HR0_1.out HB.out) | (with_reducible refine Kd.C_alloc ?_ _) | (with_reducible refine Kd.C_drewN ?_ _) | (with_reducible refine Kd.C_drew ?_))); (case side2 => exact HC0_1.out); rintro e w7 ⟨v437, rfl, ho0, hb⟩; refine ⟨_, rfl, ?_⟩; have n0_ := Aside0.mk (Kd.S_lower ho0 (qal (hB1_ GE435.out))); have n1_ := Aside0.mk (qap (g := gb435) (o := .cells #[.int .i64 a0_0, .slice A0_1 l0_1.length c0_1] 30 (0, 0)) (uB_ BK435.out) hb); have n2_ := Aside0.mk (qak (hB1_ GE435.out) hb); clear BK435; clear HB; have HO438 := n0_; have BK435 := n1_; have HB := n2_; clear n0_ n1_ n2_; (try clear hb); (try clear hb2); (try clear hk); (try clear hi); (try clear ho0); have hcz8_0 : w7.cell? ⟨gb435, 0, none⟩ = some (.int .i64 a0_0) := (qab BK435.out 0).trans rfl; have hcz8_1 : w7.cell? ⟨gb435, 1, none⟩ = some (.slice A0_1 l0_1.length c0_1) := (qab BK435.out 1).trans rfl; have hfz8_0 := qaf BK435.out 0; have hfz8_1 := qaf BK435.out 1) | ((with_reducible refine gate_dst (N := 16) rfl ?_); refine Kd.R_make Kd.bool _ 4 rfl (N := 16) rfl 57 _ _ rfl a0_0 rfl rfl Tryd.underlying57 (.bool false) 1 info4 rfl (by decide) (by omega) false (ok := fun _ => True) (okp := fun _ => True) rfl (fun _ hk => hk) trivial (oD_) (Nat.le_trans (Nat.mul_le_mul_right _ (oD_ : a0_0.toNat ≤ 281474976710656)) (by omega)) (Below.refl _ _) (Nat.le_refl _) ?_; intro v440 w9 ho10 hb hg_ hnew_; clear hg_ hnew_; (first | rw [← Ny439.out] at ho10 | (simp only [Int.reduceToNat] at ho10; rw [← Ny439.out] at ho10)); have n0_ := Aside0.mk (Kd.S_elder' (uS_ HO438.out) (Kd.R_base ho10) hb); have n1_ := Aside0.mk (Kd.R_lower ho10 (qal (hB1_ GE435.out))); have n2_ := Aside0.mk (qap (g := gb435) (o := .cells #[.int .i64 a0_0, .slice A0_1 l0_1.length c0_1] 30 (0, 0)) (uB_ BK435.out) hb); have n3_ := Aside0.mk (qak (hB1_ GE435.out) hb); clear HO438; clear BK435; clear HB; have HO438 := n0_; have HO441 := n1_; have BK435 := n2_; have HB := n3_; clear n0_ n1_ n2_ n3_; clear hb ho10; obtain ⟨Ao11, co11, eo11⟩ := Kd.S_slice HO438.out; subst eo11))
   go_loopg [5, 19] k (fun kq v5 v19 w' => ∃ (x4_1 : List Bool) (x5_1 : List (List Int)) (x19_1 : Int), v19 = .int .i64 x19_1 ∧ Aside0 (spec_paParts.l0 kq t436 x4_1 x5_1 (t436.length : Int) x19_1 = some r) ∧ Aside0 (kq ≤ k) ∧ Aside0 (Kd.S (Kd.slice 4 Kd.bool) 57 w' w.heap.size (fun k_ => some k_ ≠ (v440 : Value).ownBlock) (.slice Ao11 t436.length co11) t436) ∧ Aside0 (Kd.R Kd.bool 4 w' w.heap.size (fun _ => True) v440 x4_1) ∧ Aside0 (Kd.S (Kd.slice 3 (Kd.int .i64)) 36 w' w.heap.size (fun _ => True) v5 x5_1) ∧ Aside0 (w'.heap[gb435]? = some (.cells #[.int .i64 a0_0, (.slice A0_1 l0_1.length c0_1)] 30 (0, 0))) ∧ Aside0 (Below w.heap.size w w'))
   case atStart => exact ⟨(y439), (([] : List (List Int))), (0), rS_, H', ⟨Nat.le_refl _⟩, ⟨by (with_reducible repeat (first | apply Kd.S_alloc | apply Kd.S_drewN | apply Kd.S_drew)); exact Kd.S_mono HO438.out (fun _ hk => hk.2)⟩, ⟨by (with_reducible repeat (first | apply Kd.qat | apply Kd.qas | apply Kd.R_drew)); exact HO441.out⟩, ⟨by first | exact Kd.S_nil _ _ _ _ _ | exact Kd.N_nil _ _ _ _ _ | exact Kd.V_nil _ _ _ _ _ | exact Kd.Q_nil _ _ _ _ _ | exact Kd.R_nil _ _ _ _ _⟩, ⟨by (with_reducible repeat (first | refine qah ?_ _ | refine qaj ?_ | refine qai ?_ _)); exact BK435.out⟩, ⟨by repeat (first | (with_reducible first | exact HB.out | apply qad | apply qaa | apply qac | refine qae ?_ GE435.out) | exact HB.out)⟩⟩
   case round =>
    clear H'
    obtain ⟨x4_1, x5_1, x19_1, rfl, HA, HK1, HO_3, HO_4, HO_5, BK435, HB⟩ := hrel
    cases gk with
    | zero => exact absurd HA.out (by simp [spec_paParts.l0])
    | succ k1 =>
     have H := HA.out
     clear HA
     simp only [spec_paParts.l0] at H
     by_cases c12 : x19_1 < (t436.length : Int)
     ·rw [if_pos c12] at H
      have c12b0 : decide (x19_1 < (t436.length : Int)) = true := decide_eq_true c12
      clear c12
      by_cases c13 : 0 ≤ x19_1
      ·rw [if_pos c13] at H
       have c13b0 : decide (0 ≤ x19_1) = true := decide_eq_true c13
       clear c13
       by_cases c14 : x19_1 < (x4_1.length : Int)
       ·rw [if_pos c14] at H
        have c14b0 : decide (x19_1 < (x4_1.length : Int)) = true := decide_eq_true c14
        clear c14
        obtain ⟨bq15, hbq15⟩ : ∃ b_ : Bool, b_ = (rdOf false x4_1 x19_1) := ⟨_, rfl⟩
        replace H : (if bq15 = true then (spec_paParts.l0 k1 t436 x4_1 x5_1 (t436.length : Int) (wrap64 (x19_1 + 1))) else (spec_paParts.l1 k1 t436 (x4_1.set (x19_1 : Int).toNat true) x5_1 (([x19_1] : List Int)) ([] : List Int) 0 (t436.length : Int) x19_1)) = some r := by rw [← hbq15] at H; exact H
        have Nbq15 := Aside0.mk hbq15
        clear hbq15
        by_cases c16 : bq15 = true
        ·subst c16
         have H1 : (spec_paParts.l0 k1 t436 x4_1 x5_1 (t436.length : Int) (wrap64 (x19_1 + 1))) = some r := by rw [if_pos rfl] at H; exact H
         clear H
         have H := H1
         clear H1
         have H' := Aside0.mk H
         clear H
         obtain ⟨Ao17, co17, eo17⟩ := Kd.R_slice HO_4.out
         subst eo17
         have p442 : 0 ≤ (x19_1 : Int) := oD_
         have q442 : x19_1 < (x4_1.length : Int) := oD_
         obtain ⟨ad442, e442, hx442_0⟩ := Kd.at_bool (Kd.R_reads' HO_4.out).2.2 x19_1 p442 q442
         (try rw [← Nbq15.out] at hx442_0)
         cases e442
         replace p442 := eq_true p442
         replace q442 := eq_true q442
         go_wp2
         go_roundg k1
         case measure => have := HK1.out; omega
         case rel => exact ⟨(x4_1), (x5_1), (wrap64 (x19_1 + 1)), rS_, H', ⟨by have := HK1.out; omega⟩, ⟨by (with_reducible repeat (first | apply Kd.S_alloc | apply Kd.S_drewN | apply Kd.S_drew)); exact HO_3.out⟩, ⟨by (with_reducible repeat (first | apply Kd.qat | apply Kd.qas | apply Kd.R_drew)); exact HO_4.out⟩, ⟨by (with_reducible repeat (first | apply Kd.S_alloc | apply Kd.S_drewN | apply Kd.S_drew)); exact HO_5.out⟩, ⟨by (with_reducible repeat (first | refine qah ?_ _ | refine qaj ?_ | refine qai ?_ _)); exact BK435.out⟩, ⟨by repeat (first | (with_reducible first | exact HB.out | apply qad | apply qaa | apply qac | refine qae ?_ GE435.out) | exact HB.out)⟩⟩
        ·replace c16 := Bool.eq_false_iff.mpr c16
         subst c16
         have H1 : (spec_paParts.l1 k1 t436 (x4_1.set (x19_1 : Int).toNat true) x5_1 (([x19_1] : List Int)) ([] : List Int) 0 (t436.length : Int) x19_1) = some r := by rw [if_neg (show ¬ (false = true) by decide)] at H; exact H
         clear H
         have H := H1
         clear H1
         obtain ⟨y443, hy443⟩ : ∃ y_ : List Bool, y_ = (x4_1.set (x19_1 : Int).toNat true) := ⟨_, rfl⟩
         replace H : (spec_paParts.l1 k1 t436 y443 x5_1 (([x19_1] : List Int)) ([] : List Int) 0 (t436.length : Int) x19_1) = some r := by first | (rw [hy443]; with_reducible exact H) | (have H2_ := (Option.bind_some _ _).symm.trans H; rw [hy443]; with_reducible exact H2_) | (have H2_ := (Option.bind_some _ _).symm.trans H; with_reducible exact H2_) | with_reducible exact H | (rw [hy443]; exact H) | exact H
         have Ny443 := Aside0.mk hy443
         clear hy443
         obtain ⟨y444, hy444⟩ : ∃ y_ : List Int, y_ = (([x19_1] : List Int)) := ⟨_, rfl⟩
         replace H : (spec_paParts.l1 k1 t436 y443 x5_1 y444 ([] : List Int) 0 (t436.length : Int) x19_1) = some r := by first | (rw [hy444]; with_reducible exact H) | (have H2_ := (Option.bind_some _ _).symm.trans H; rw [hy444]; with_reducible exact H2_) | (have H2_ := (Option.bind_some _ _).symm.trans H; with_reducible exact H2_) | with_reducible exact H | (rw [hy444]; exact H) | exact H
         have Ny444 := Aside0.mk hy444
         clear hy444
         have H' := Aside0.mk H
         clear H
         obtain ⟨Ao19, co19, eo19⟩ := Kd.R_slice HO_4.out
         subst eo19
         have p442 : 0 ≤ (x19_1 : Int) := oD_
         have q442 : x19_1 < (x4_1.length : Int) := oD_
         obtain ⟨ad442, e442, hx442_0⟩ := Kd.at_bool (Kd.R_reads' HO_4.out).2.2 x19_1 p442 q442
         (try rw [← Nbq15.out] at hx442_0)
         cases e442
         replace p442 := eq_true p442
         replace q442 := eq_true q442
         have p18 : 0 ≤ (x19_1 : Int) := oD_
         have q18 : (x19_1 : Int) < ((x4_1.length : Int) : Int) := oD_
         obtain ⟨go18, co18, eo18, gb18, gl18, cl18, HG18⟩ := Kd.R_form HO_4.out (by omega)
         (first | cases eo18 | (injection eo18 with ea_ en_ ec_; (first | subst ea_ | (injection ea_ with ea_; subst ea_)); subst ec_; clear en_))
         have GB18 := Aside0.mk gb18
         have GG18 := Aside0.mk HG18
         clear gb18 gl18 HG18
         (first | simp only [add_plain] at hx442_0 | skip)
         obtain ⟨hx18_0, hf18_0⟩ := Kd.R_celln false HO_4.out (x19_1 : Int) p18 q18
         replace p18 := eq_true p18
         replace q18 := eq_true q18
         have HP20 := Kd.R_putg HO_4.out (x19_1 : Int) true
         go_wp2_with (first | ((with_reducible refine gate_store (t := 4) (p := 28) rfl ?_); refine store_event (t := 4) (p := 28) (v := ?vo_w21) (w1 := (wr.setCell ⟨go18, (x19_1 : Int).toNat, none⟩ (.bool true))) ?hg ?ho ?hn ?hr ?_; (case ho => rfl); (case hg => rfl); (case hn => rfl); (case hr => first | (go_simp; done) | (go_simp; rfl)); intro w21 hw; have hg : wr.grownBy w21 (some go18) := (by rw [hw]; exact HP20.2); have hp_ : Kd.R Kd.bool 4 w21 w.heap.size (fun _ => True) (.slice (some ⟨go18, 0, none⟩) x4_1.length co19) y443 := (by rw [hw, Ny443.out]; exact HP20.1); clear HP20; have n0_ := Aside0.mk (Kd.S_after (v := (.slice (some ⟨go18, 0, none⟩) x4_1.length co19)) (v1 := (.slice (some ⟨go18, 0, none⟩) x4_1.length co19)) (ok := (fun _ => True)) (by (with_reducible repeat (first | apply Kd.S_alloc | apply Kd.S_drewN | apply Kd.S_drew)); exact Kd.S_mono HO_3.out (fun _ hk => ⟨trivial, hk⟩)) hg (.inl rfl)); have n1_ := Aside0.mk (hp_); have n2_ := Aside0.mk (Kd.S_over' (v := (.slice (some ⟨go18, 0, none⟩) x4_1.length co19)) (uS_ HO_5.out) (Kd.R_typed HO_4.out) (by decide) hg); have n3_ := Aside0.mk (blk_grown (g := gb435) (o := .cells #[.int .i64 a0_0, .slice A0_1 l0_1.length c0_1] 30 (0, 0)) (uB_ BK435.out) hg (Kd.R_ne HO_4.out BK435.out (by decide))); have n4_ := Aside0.mk ((by rw [hw]; exact qae (HB.out) GB18.out : Below w.heap.size w w21)); clear HO_3; clear HO_4; clear HO_5; clear BK435; clear HB; have HO_3 := n0_; have HO_4 := n1_; have HO_5 := n2_; have BK435 := n3_; have HB := n4_; clear n0_ n1_ n2_ n3_ n4_; clear hg hw hp_) | ((with_reducible refine gate_dst (N := 30) rfl ?_); refine Kd.R_lit (Kd.int .i64) _ 3 ?hg (N := 30) ?hd (xs := ([x19_1] : List Int)) (inner := [.int .i64 x19_1]) (ok := fun _ => True) (okp := fun _ => True) ?hr ?hp (fun _ hk => hk) trivial (Below.refl _ _) (Nat.le_refl _) (by simp) ?_; (case hd => rfl); (case hg => rfl); (case hr => first | (go_simp; done) | (go_simp; rfl)); (case hp => exact (Reps.one (show Kd.M (Kd.int .i64) _ _ _ x19_1 [.int .i64 x19_1] from rfl) (Reps.none _ _))); intro v445 w22 ho23 hb hg_ hnew_; clear hg_ hnew_; (first | rw [← Ny444.out] at ho23 | (simp only [Int.reduceToNat] at ho23; rw [← Ny444.out] at ho23)); have n0_ := Aside0.mk (Kd.S_below (uS_ HO_3.out) hb); have n1_ := Aside0.mk (Kd.R_below (uR_ HO_4.out) hb); have n2_ := Aside0.mk (Kd.S_elder' (uS_ HO_5.out) (Kd.R_base ho23) hb); have n3_ := Aside0.mk (Kd.R_lower ho23 (qal (hB1_ GE435.out))); have n4_ := Aside0.mk (qap (g := gb435) (o := .cells #[.int .i64 a0_0, .slice A0_1 l0_1.length c0_1] 30 (0, 0)) (uB_ BK435.out) hb); have n5_ := Aside0.mk (qak (hB1_ GE435.out) hb); clear HO_3; clear HO_4; clear HO_5; clear BK435; clear HB; have HO_3 := n0_; have HO_4 := n1_; have HO_5 := n2_; have HO446 := n3_; have BK435 := n4_; have HB := n5_; clear n0_ n1_ n2_ n3_ n4_ n5_; clear hb ho23))
         go_loopg [7, 8, 9] k1 (fun kq v7 v8 v9 w' => ∃ (x4_2 : List Bool) (x7_2 : List Int) (x8_2 : List Int) (x9_2 : Int), v9 = .int .i64 x9_2 ∧ Aside0 (spec_paParts.l1 kq t436 x4_2 x5_1 x7_2 x8_2 x9_2 (t436.length : Int) x19_1 = some r) ∧ Aside0 (kq ≤ k1) ∧ Aside0 (Kd.S (Kd.slice 4 Kd.bool) 57 w' w.heap.size (fun k_ => some k_ ≠ ((.slice (some ⟨go18, 0, none⟩) x4_1.length co19) : Value).ownBlock) (.slice Ao11 t436.length co11) t436) ∧ Aside0 (Kd.R Kd.bool 4 w' w.heap.size (fun _ => True) (.slice (some ⟨go18, 0, none⟩) x4_1.length co19) x4_2) ∧ Aside0 (Kd.S (Kd.slice 3 (Kd.int .i64)) 36 w' w.heap.size (fun k_ => some k_ ≠ (v7 : Value).ownBlock ∧ some k_ ≠ (v8 : Value).ownBlock) u5 x5_1) ∧ Aside0 (Kd.R (Kd.int .i64) 3 w' w.heap.size (fun k_ => some k_ ≠ (v8 : Value).ownBlock) v7 x7_2) ∧ Aside0 (Kd.R (Kd.int .i64) 3 w' w.heap.size (fun k_ => some k_ ≠ (v7 : Value).ownBlock) v8 x8_2) ∧ Aside0 (w'.heap[gb435]? = some (.cells #[.int .i64 a0_0, (.slice A0_1 l0_1.length c0_1)] 30 (0, 0))) ∧ Aside0 (Below w.heap.size w w'))
         case atStart => exact ⟨(y443), (y444), (([] : List Int)), (0), rS_, H', ⟨Nat.le_refl _⟩, ⟨by (with_reducible repeat (first | apply Kd.S_alloc | apply Kd.S_drewN | apply Kd.S_drew)); exact Kd.S_mono HO_3.out (fun _ hk => hk.2)⟩, ⟨by (with_reducible repeat (first | apply Kd.qat | apply Kd.qas | apply Kd.R_drew)); exact HO_4.out⟩, ⟨by (with_reducible repeat (first | apply Kd.S_alloc | apply Kd.S_drewN | apply Kd.S_drew)); exact Kd.S_mono HO_5.out (fun _ hk => ⟨hk.2, (by simp [Value.ownBlock])⟩)⟩, ⟨by (with_reducible repeat (first | apply Kd.qat | apply Kd.qas | apply Kd.R_drew)); exact Kd.R_mono HO446.out (fun _ hk => (by simp [Value.ownBlock]))⟩, ⟨by first | exact Kd.R_nil _ _ _ _ _ | exact Kd.N_nil _ _ _ _ _ | exact Kd.V_nil _ _ _ _ _ | exact Kd.Q_nil _ _ _ _ _ | exact Kd.S_nil _ _ _ _ _⟩, ⟨by (with_reducible repeat (first | refine qah ?_ _ | refine qaj ?_ | refine qai ?_ _)); exact BK435.out⟩, ⟨by repeat (first | (with_reducible first | exact HB.out | apply qad | apply qaa | apply qac | refine qae ?_ GE435.out) | exact HB.out)⟩⟩
         case round =>
          clear H'
          obtain ⟨x4_2, x7_2, x8_2, x9_2, rfl, HA, HK2, HO_3, HO_4, HO_5, HO_7, HO_8, BK435, HB⟩ := hrel
          have hl4_2 := (Kd.R_reads' HO_4.out).1
          rw [hl4_2] at HO_4
          (try simp only [hl4_2])
          (try simp only [hl4_2] at BK435)
          (try simp only [hl4_2] at HO_3)
          (try simp only [hl4_2] at HO_5)
          (try simp only [hl4_2] at HO_7)
          (try simp only [hl4_2] at HO_8)
          cases gk with
          | zero => exact absurd HA.out (by simp [spec_paParts.l1])
          | succ k2 =>
           have H := HA.out
           clear HA
           simp only [spec_paParts.l1] at H
           by_cases c24 : x9_2 < (x7_2.length : Int)
           ·rw [if_pos c24] at H
            have c24b0 : decide (x9_2 < (x7_2.length : Int)) = true := decide_eq_true c24
            (try (have c24b0_0 := c24b0; simp only [hl4_2] at c24b0_0))
            clear c24
            by_cases c25 : 0 ≤ x9_2
            ·rw [if_pos c25] at H
             have c25b0 : decide (0 ≤ x9_2) = true := decide_eq_true c25
             clear c25
             replace H := Option.bind_eq_some_iff.mp H
             obtain ⟨t451, A260, H⟩ := H
             replace H : ((spec_paFriends.f k2 t436 (rd x7_2 x9_2)).bind fun t455 => (spec_paParts.l2 k2 t436 x4_2 x5_1 x7_2 t451 x9_2 (t436.length : Int) x19_1 t455 (t455.length : Int) 0)) = some r := H
             have A26 := Aside0.mk A260
             clear A260
             replace H := Option.bind_eq_some_iff.mp H
             obtain ⟨t455, A270, H⟩ := H
             replace H : (spec_paParts.l2 k2 t436 x4_2 x5_1 x7_2 t451 x9_2 (t436.length : Int) x19_1 t455 (t455.length : Int) 0) = some r := H
             have A27 := Aside0.mk A270
             clear A270
             have H' := Aside0.mk H
             clear H
             obtain ⟨Ao28, co28, eo28⟩ := Kd.R_slice HO_7.out
             subst eo28
             have p450 : 0 ≤ (x9_2 : Int) := oD_
             have q450 : x9_2 < (x7_2.length : Int) := oD_
             obtain ⟨ad450, e450, hx450_0⟩ := Kd.at_int (Kd.R_reads' HO_7.out).2.2 x9_2 p450 q450
             cases e450
             replace p450 := eq_true p450
             replace q450 := eq_true q450
             obtain ⟨Ao29, co29, eo29⟩ := Kd.R_slice HO_8.out
             subst eo29
             go_wp2_with (first | ((with_reducible refine qao (f := 71) rfl ?_); refine goesL_ (some 42) rfl rfl Tryd.func71 (by kernel_rfl) rfl #[.slice Ao29 x8_2.length co29, .int .i64 (rd x7_2 x9_2)] rfl mT_ ?_; (with_reducible refine (spec_l1Put.calls k2 (fun k_ => some k_ = (.slice Ao29 x8_2.length co29 : Value).ownBlock) (.slice Ao29 x8_2.length co29) x8_2 (rd x7_2 x9_2) t451 w _ ?side1 ?side2 A26.out).mono ?_); (case side1 => repeat (first | (with_reducible first | exact HB.out | apply qad | apply qaa | apply qac | refine qae ?_ GE435.out) | exact HB.out)); (case side2 => exact Kd.R_tight rfl HO_8.out); rintro e w30 ⟨v452, rfl, ho0, hb, hkp⟩; refine ⟨_, rfl, ?_⟩; have n0_ := Aside0.mk (Kd.S_mono (ok' := fun k_ => some k_ ≠ (.slice (some ⟨go18, 0, none⟩) x4_2.length co19 : Value).ownBlock) (Kd.S_keptB ((Kd.S_apart' HO_3.out (Kd.R_typed HO_8.out) (by decide))) hkp (fun k_ hk_ hs_ => (hk_.2) hs_)) (fun k_ hk_ => hk_.1.1)); have n1_ := Aside0.mk (Kd.R_mono (ok' := fun k_ => True) (Kd.R_keptB ((Kd.R_apart' HO_4.out (Kd.R_typed HO_8.out) (by decide))) hkp (fun k_ hk_ hs_ => (hk_.2) hs_)) (fun k_ hk_ => trivial)); have n2_ := Aside0.mk (Kd.S_mono (ok' := fun k_ => some k_ ≠ (.slice (some ad450) x7_2.length co28 : Value).ownBlock ∧ some k_ ≠ (v452 : Value).ownBlock) (Kd.S_keptB (HO_5.out) hkp (fun k_ hk_ hs_ => (hk_.2) hs_)) (fun k_ hk_ => ⟨hk_.1.1, fun e_ => Or.elim (ho0.1 k_ e_.symm) (fun hs_ => hk_.2.1 hs_) (fun hn_ => Nat.not_le.2 hk_.2.2 hn_)⟩)); have n3_ := Aside0.mk (Kd.R_mono (ok' := fun k_ => some k_ ≠ (v452 : Value).ownBlock) (Kd.R_keptB (HO_7.out) hkp (fun k_ hk_ hs_ => (hk_) hs_)) (fun k_ hk_ => fun e_ => Or.elim (ho0.1 k_ e_.symm) (fun hs_ => hk_.2.1 hs_) (fun hn_ => Nat.not_le.2 hk_.2.2 hn_))); have n4_ := Aside0.mk (blk_kept (uB_ BK435.out) hkp (fun hs_ => (fun e_ => (Kd.R_ne HO_8.out BK435.out (by decide)) e_) hs_)); have n5_ := Aside0.mk (Kd.R_mono (ok' := fun k_ => some k_ ≠ (.slice (some ad450) x7_2.length co28 : Value).ownBlock) ho0 (fun k_ hk_ => Or.elim hk_ (fun hs_ => fun e_ => (((HO_7.out).1 k_ e_.symm)) hs_) (fun hn_ => (Kd.fresh' (Kd.R_lt (uR_ HO_7.out)) k_ hn_)))); have n6_ := Aside0.mk (hb); clear HO_3; clear HO_4; clear HO_5; clear HO_7; clear BK435; clear HB; clear HO_8; have HO_3 := n0_; have HO_4 := n1_; have HO_5 := n2_; have HO_7 := n3_; have BK435 := n4_; have HO453 := n5_; have HB := n6_; clear n0_ n1_ n2_ n3_ n4_ n5_ n6_; (try clear hb); (try clear hkp); (try clear ho0); have p454 : 0 ≤ (x9_2 : Int) := oD_; have q454 : x9_2 < (x7_2.length : Int) := oD_; obtain ⟨ad454, e454, hx454_0⟩ := Kd.at_int (Kd.R_reads' HO_7.out).2.2 x9_2 p454 q454; obtain rfl : ad450 = ad454 := (by injection e454); replace p454 := eq_true p454; replace q454 := eq_true q454) | ((with_reducible refine qao (f := 51) rfl ?_); refine goesL_ (some 48) rfl rfl Tryd.func51 (by kernel_rfl) rfl #[.slice Ao11 t436.length co11, .int .i64 (rd x7_2 x9_2)] rfl mT_ ?_; (with_reducible refine (spec_paFriends.calls k2 _ _ t436 (rd x7_2 x9_2) t455 _ ?side1 ?side2 A27.out).mono ?_); (case side1 => repeat (first | exact (Kd.S_reads' HO_3.out).2.2 | (with_reducible refine Kd.C_alloc ?_ _) | (with_reducible refine Kd.C_drewN ?_ _) | (with_reducible refine Kd.C_drew ?_))); (case side2 => exact (Kd.S_reads' HO_3.out).2.1); rintro e w31 ⟨v456, rfl, ho0, hb⟩; refine ⟨_, rfl, ?_⟩; have n0_ := Aside0.mk (Kd.S_below (uS_ HO_3.out) hb); have n1_ := Aside0.mk (Kd.R_below (uR_ HO_4.out) hb); have n2_ := Aside0.mk (Kd.S_elder' (uS_ HO_5.out) (Kd.R_base ho0) hb); have n3_ := Aside0.mk (Kd.R_elder' (uR_ HO_7.out) (Kd.R_base ho0) hb); have n4_ := Aside0.mk (Kd.R_elder' (uR_ HO453.out) (Kd.R_base ho0) hb); have n5_ := Aside0.mk (Kd.R_lower (Kd.R_new' (Kd.R_new' ho0 (Kd.R_lt (uR_ HO_7.out))) (Kd.R_lt (uR_ HO453.out))) (qal (hB1_ GE435.out))); have n6_ := Aside0.mk (qap (g := gb435) (o := .cells #[.int .i64 a0_0, .slice A0_1 l0_1.length c0_1] 30 (0, 0)) (uB_ BK435.out) hb); have n7_ := Aside0.mk (qak (hB1_ GE435.out) hb); clear HO_3; clear HO_4; clear HO_5; clear HO_7; clear HO453; clear BK435; clear HB; have HO_3 := n0_; have HO_4 := n1_; have HO_5 := n2_; have HO_7 := n3_; have HO453 := n4_; have HO457 := n5_; have BK435 := n6_; have HB := n7_; clear n0_ n1_ n2_ n3_ n4_ n5_ n6_ n7_; (try clear hb); (try clear hb2); (try clear hk); (try clear hi); (try clear ho0); obtain ⟨Ao32, co32, eo32⟩ := Kd.R_slice HO457.out; subst eo32))
             go_loopg [7, 50] k2 (fun kq v7 v50 w' => ∃ (x4_3 : List Bool) (x7_3 : List Int) (x50_3 : Int), v50 = .int .i64 x50_3 ∧ Aside0 (spec_paParts.l2 kq t436 x4_3 x5_1 x7_3 t451 x9_2 (t436.length : Int) x19_1 t455 (t455.length : Int) x50_3 = some r) ∧ Aside0 (kq ≤ k2) ∧ Aside0 (Kd.S (Kd.slice 4 Kd.bool) 57 w' w.heap.size (fun k_ => some k_ ≠ ((.slice (some ⟨go18, 0, none⟩) x4_2.length co19) : Value).ownBlock) (.slice Ao11 t436.length co11) t436) ∧ Aside0 (Kd.R Kd.bool 4 w' w.heap.size (fun _ => True) (.slice (some ⟨go18, 0, none⟩) x4_2.length co19) x4_3) ∧ Aside0 (Kd.S (Kd.slice 3 (Kd.int .i64)) 36 w' w.heap.size (fun k_ => some k_ ≠ (v7 : Value).ownBlock ∧ some k_ ≠ (v452 : Value).ownBlock ∧ some k_ ≠ ((.slice Ao32 t455.length co32) : Value).ownBlock) u5 x5_1) ∧ Aside0 (Kd.R (Kd.int .i64) 3 w' w.heap.size (fun k_ => some k_ ≠ (v452 : Value).ownBlock ∧ some k_ ≠ ((.slice Ao32 t455.length co32) : Value).ownBlock) v7 x7_3) ∧ Aside0 (Kd.R (Kd.int .i64) 3 w' w.heap.size (fun k_ => some k_ ≠ (v7 : Value).ownBlock ∧ some k_ ≠ ((.slice Ao32 t455.length co32) : Value).ownBlock) v452 t451) ∧ Aside0 (Kd.R (Kd.int .i64) 3 w' w.heap.size (fun k_ => some k_ ≠ (v7 : Value).ownBlock ∧ some k_ ≠ (v452 : Value).ownBlock) (.slice Ao32 t455.length co32) t455) ∧ Aside0 (w'.heap[gb435]? = some (.cells #[.int .i64 a0_0, (.slice A0_1 l0_1.length c0_1)] 30 (0, 0))) ∧ Aside0 (Below w.heap.size w w'))
             case atStart => exact ⟨(x4_2), (x7_2), (0), rS_, H', ⟨Nat.le_refl _⟩, ⟨by (try simp only [hl4_2]); (with_reducible repeat (first | apply Kd.S_alloc | apply Kd.S_drewN | apply Kd.S_drew)); exact HO_3.out⟩, ⟨by (try simp only [hl4_2]); (with_reducible repeat (first | apply Kd.qat | apply Kd.qas | apply Kd.R_drew)); exact HO_4.out⟩, ⟨by (try simp only [hl4_2]); (with_reducible repeat (first | apply Kd.S_alloc | apply Kd.S_drewN | apply Kd.S_drew)); exact Kd.S_mono HO_5.out (fun _ hk => ⟨hk.1.1, ⟨hk.1.2, hk.2⟩⟩)⟩, ⟨by (try simp only [hl4_2]); (with_reducible repeat (first | apply Kd.qat | apply Kd.qas | apply Kd.R_drew)); exact HO_7.out⟩, ⟨by (try simp only [hl4_2]); (with_reducible repeat (first | apply Kd.qat | apply Kd.qas | apply Kd.R_drew)); exact HO453.out⟩, ⟨by (try simp only [hl4_2]); (with_reducible repeat (first | apply Kd.qat | apply Kd.qas | apply Kd.R_drew)); exact Kd.R_mono HO457.out (fun _ hk => ⟨hk.1.2, hk.2⟩)⟩, ⟨by (try simp only [hl4_2]); (with_reducible repeat (first | refine qah ?_ _ | refine qaj ?_ | refine qai ?_ _)); exact BK435.out⟩, ⟨by repeat (first | (with_reducible first | exact HB.out | apply qad | apply qaa | apply qac | refine qae ?_ GE435.out) | exact HB.out)⟩⟩
             case round =>
              clear H'
              obtain ⟨x4_3, x7_3, x50_3, rfl, HA, HK3, HO_3, HO_4, HO_5, HO_7, HO_8, HO_48, BK435, HB⟩ := hrel
              have hl4_3 := (Kd.R_reads' HO_4.out).1
              rw [hl4_3] at HO_4
              (try simp only [hl4_3])
              (try simp only [hl4_3] at BK435)
              (try simp only [hl4_3] at HO_3)
              (try simp only [hl4_3] at HO_5)
              (try simp only [hl4_3] at HO_7)
              (try simp only [hl4_3] at HO_8)
              (try simp only [hl4_3] at HO_48)
              cases gk with
              | zero => exact absurd HA.out (by simp [spec_paParts.l2])
              | succ k3 =>
               have H := HA.out
               clear HA
               simp only [spec_paParts.l2] at H
               by_cases c33 : x50_3 < (t455.length : Int)
               ·rw [if_pos c33] at H
                have c33b0 : decide (x50_3 < (t455.length : Int)) = true := decide_eq_true c33
                (try (have c33b0_0 := c33b0; simp only [hl4_2] at c33b0_0)); (try (have c33b0_1 := c33b0; simp only [hl4_3] at c33b0_1))
                clear c33
                by_cases c34 : 0 ≤ x50_3
                ·rw [if_pos c34] at H
                 have c34b0 : decide (0 ≤ x50_3) = true := decide_eq_true c34
                 clear c34
                 by_cases c35 : x50_3 < (t455.length : Int)
                 ·rw [if_pos c35] at H
                  have c35b0 : decide (x50_3 < (t455.length : Int)) = true := decide_eq_true c35
                  (try (have c35b0_0 := c35b0; simp only [hl4_2] at c35b0_0)); (try (have c35b0_1 := c35b0; simp only [hl4_3] at c35b0_1))
                  clear c35
                  by_cases c36 : 0 ≤ (rd t455 x50_3)
                  ·rw [if_pos c36] at H
                   have c36b0 : decide (0 ≤ (rd t455 x50_3)) = true := decide_eq_true c36
                   clear c36
                   by_cases c37 : (rd t455 x50_3) < (x4_3.length : Int)
                   ·rw [if_pos c37] at H
                    have c37b0 : decide ((rd t455 x50_3) < (x4_3.length : Int)) = true := decide_eq_true c37
                    (try (have c37b0_0 := c37b0; simp only [hl4_2] at c37b0_0)); (try (have c37b0_1 := c37b0; simp only [hl4_3] at c37b0_1))
                    clear c37
                    obtain ⟨bq38, hbq38⟩ : ∃ b_ : Bool, b_ = (rdOf false x4_3 (rd t455 x50_3)) := ⟨_, rfl⟩
                    replace H : (if (bq38 = true) then (spec_paParts.l2 k3 t436 x4_3 x5_1 x7_3 t451 x9_2 (t436.length : Int) x19_1 t455 (t455.length : Int) (wrap64 (x50_3 + 1))) else (if x7_3.length < 17592186044416 then (spec_paParts.l2 k3 t436 (x4_3.set ((rd t455 x50_3) : Int).toNat true) x5_1 (x7_3 ++ [rd t455 x50_3]) t451 x9_2 (t436.length : Int) x19_1 t455 (t455.length : Int) (wrap64 (x50_3 + 1))) else (none))) = some r := by rw [← hbq38] at H; exact H
                    have Nbq38 := Aside0.mk hbq38
                    clear hbq38
                    by_cases c39 : (bq38 = true)
                    ·subst c39
                     have H1 : (spec_paParts.l2 k3 t436 x4_3 x5_1 x7_3 t451 x9_2 (t436.length : Int) x19_1 t455 (t455.length : Int) (wrap64 (x50_3 + 1))) = some r := by rw [if_pos rfl] at H; exact H
                     clear H
                     have H := H1
                     clear H1
                     have H' := Aside0.mk H
                     clear H
                     have p458 : 0 ≤ (x50_3 : Int) := oD_
                     have q458 : x50_3 < (t455.length : Int) := oD_
                     obtain ⟨ad458, e458, hx458_0⟩ := Kd.at_int (Kd.R_reads' HO_48.out).2.2 x50_3 p458 q458
                     cases e458
                     replace p458 := eq_true p458
                     replace q458 := eq_true q458
                     have p459 : 0 ≤ ((rd t455 x50_3) : Int) := oD_
                     have q459 : (rd t455 x50_3) < (x4_3.length : Int) := oD_
                     obtain ⟨ad459, e459, hx459_0⟩ := Kd.at_bool (Kd.R_reads' HO_4.out).2.2 (rd t455 x50_3) p459 q459
                     (try rw [← Nbq15.out] at hx459_0)
                     (try rw [← Nbq38.out] at hx459_0)
                     obtain rfl : (⟨go18, 0, none⟩ : Addr) = ad459 := (by injection e459)
                     (first | simp only [add_plain] at hx459_0 | simp only [add_at] at hx459_0 | simp only [Addr.add, Nat.zero_add] at hx459_0 | skip)
                     replace p459 := eq_true p459
                     replace q459 := eq_true q459
                     go_wp2
                     (try simp only [← hl4_3])
                     go_roundg k3
                     case measure => have := HK1.out; have := HK2.out; have := HK3.out; omega
                     case rel => exact ⟨(x4_3), (x7_3), (wrap64 (x50_3 + 1)), rS_, H', ⟨by have := HK1.out; have := HK2.out; have := HK3.out; omega⟩, ⟨by (try simp only [hl4_2]); (try simp only [hl4_3]); (with_reducible repeat (first | apply Kd.S_alloc | apply Kd.S_drewN | apply Kd.S_drew)); exact HO_3.out⟩, ⟨by (try simp only [hl4_2]); (try simp only [hl4_3]); (with_reducible repeat (first | apply Kd.qat | apply Kd.qas | apply Kd.R_drew)); exact HO_4.out⟩, ⟨by (try simp only [hl4_2]); (try simp only [hl4_3]); (with_reducible repeat (first | apply Kd.S_alloc | apply Kd.S_drewN | apply Kd.S_drew)); exact HO_5.out⟩, ⟨by (try simp only [hl4_2]); (try simp only [hl4_3]); (with_reducible repeat (first | apply Kd.qat | apply Kd.qas | apply Kd.R_drew)); exact HO_7.out⟩, ⟨by (try simp only [hl4_2]); (try simp only [hl4_3]); (with_reducible repeat (first | apply Kd.qat | apply Kd.qas | apply Kd.R_drew)); exact HO_8.out⟩, ⟨by (try simp only [hl4_2]); (try simp only [hl4_3]); (with_reducible repeat (first | apply Kd.qat | apply Kd.qas | apply Kd.R_drew)); exact HO_48.out⟩, ⟨by (try simp only [hl4_2]); (try simp only [hl4_3]); (with_reducible repeat (first | refine qah ?_ _ | refine qaj ?_ | refine qai ?_ _)); exact BK435.out⟩, ⟨by repeat (first | (with_reducible first | exact HB.out | apply qad | apply qaa | apply qac | refine qae ?_ GE435.out) | exact HB.out)⟩⟩
                    ·replace c39 := Bool.eq_false_iff.mpr c39
                     subst c39
                     have H1 : (if x7_3.length < 17592186044416 then (spec_paParts.l2 k3 t436 (x4_3.set ((rd t455 x50_3) : Int).toNat true) x5_1 (x7_3 ++ [rd t455 x50_3]) t451 x9_2 (t436.length : Int) x19_1 t455 (t455.length : Int) (wrap64 (x50_3 + 1))) else (none)) = some r := by rw [if_neg (show ¬ (false = true) by decide)] at H; exact H
                     clear H
                     have H := H1
                     clear H1
                     obtain ⟨y460, hy460⟩ : ∃ y_ : List Bool, y_ = (x4_3.set ((rd t455 x50_3) : Int).toNat true) := ⟨_, rfl⟩
                     replace H : (if x7_3.length < 17592186044416 then (spec_paParts.l2 k3 t436 y460 x5_1 (x7_3 ++ [rd t455 x50_3]) t451 x9_2 (t436.length : Int) x19_1 t455 (t455.length : Int) (wrap64 (x50_3 + 1))) else (none)) = some r := by first | (rw [hy460]; with_reducible exact H) | (have H2_ := (Option.bind_some _ _).symm.trans H; rw [hy460]; with_reducible exact H2_) | (have H2_ := (Option.bind_some _ _).symm.trans H; with_reducible exact H2_) | with_reducible exact H | (rw [hy460]; exact H) | exact H
                     have Ny460 := Aside0.mk hy460
                     clear hy460
                     by_cases c41 : x7_3.length < 17592186044416
                     ·rw [if_pos c41] at H
                      have LMc41 := Aside0.mk c41
                      clear c41
                      obtain ⟨y461, hy461⟩ : ∃ y_ : List Int, y_ = (x7_3 ++ [rd t455 x50_3]) := ⟨_, rfl⟩
                      replace H : (spec_paParts.l2 k3 t436 y460 x5_1 y461 t451 x9_2 (t436.length : Int) x19_1 t455 (t455.length : Int) (wrap64 (x50_3 + 1))) = some r := by first | (rw [hy461]; with_reducible exact H) | (have H2_ := (Option.bind_some _ _).symm.trans H; rw [hy461]; with_reducible exact H2_) | (have H2_ := (Option.bind_some _ _).symm.trans H; with_reducible exact H2_) | with_reducible exact H | (rw [hy461]; exact H) | exact H
                      have Ny461 := Aside0.mk hy461
                      clear hy461
                      have H' := Aside0.mk H
                      clear H
                      have p458 : 0 ≤ (x50_3 : Int) := oD_
                      have q458 : x50_3 < (t455.length : Int) := oD_
                      obtain ⟨ad458, e458, hx458_0⟩ := Kd.at_int (Kd.R_reads' HO_48.out).2.2 x50_3 p458 q458
                      cases e458
                      replace p458 := eq_true p458
                      replace q458 := eq_true q458
                      have p459 : 0 ≤ ((rd t455 x50_3) : Int) := oD_
                      have q459 : (rd t455 x50_3) < (x4_3.length : Int) := oD_
                      obtain ⟨ad459, e459, hx459_0⟩ := Kd.at_bool (Kd.R_reads' HO_4.out).2.2 (rd t455 x50_3) p459 q459
                      (try rw [← Nbq15.out] at hx459_0)
                      (try rw [← Nbq38.out] at hx459_0)
                      obtain rfl : (⟨go18, 0, none⟩ : Addr) = ad459 := (by injection e459)
                      (first | simp only [add_plain] at hx459_0 | simp only [add_at] at hx459_0 | simp only [Addr.add, Nat.zero_add] at hx459_0 | skip)
                      replace p459 := eq_true p459
                      replace q459 := eq_true q459
                      have p40 : 0 ≤ ((rd t455 x50_3) : Int) := oD_
                      have q40 : ((rd t455 x50_3) : Int) < ((x4_3.length : Int) : Int) := oD_
                      obtain ⟨hx40_0, hf40_0⟩ := Kd.R_celln false HO_4.out ((rd t455 x50_3) : Int) p40 q40
                      replace p40 := eq_true p40
                      replace q40 := eq_true q40
                      have HP42 := Kd.R_putg HO_4.out ((rd t455 x50_3) : Int) true
                      go_wp2_with (first | ((with_reducible refine gate_store (t := 4) (p := 61) rfl ?_); refine store_event (t := 4) (p := 61) (v := ?vo_w43) (w1 := (wr.setCell ⟨go18, ((rd t455 x50_3) : Int).toNat, none⟩ (.bool true))) ?hg ?ho ?hn ?hr ?_; (case ho => rfl); (case hg => rfl); (case hn => rfl); (case hr => first | (go_simp; done) | (go_simp; rfl)); intro w43 hw; have hg : wr.grownBy w43 (some go18) := (by rw [hw]; exact HP42.2); have hp_ : Kd.R Kd.bool 4 w43 w.heap.size (fun _ => True) (.slice (some ⟨go18, 0, none⟩) x4_3.length co19) y460 := (by rw [hw, Ny460.out]; exact HP42.1); clear HP42; have n0_ := Aside0.mk (Kd.S_after (v := (.slice (some ⟨go18, 0, none⟩) x4_3.length co19)) (v1 := (.slice (some ⟨go18, 0, none⟩) x4_3.length co19)) (ok := (fun _ => True)) (by (with_reducible repeat (first | apply Kd.S_alloc | apply Kd.S_drewN | apply Kd.S_drew)); exact Kd.S_mono HO_3.out (fun _ hk => ⟨trivial, hk⟩)) hg (.inl rfl)); have n1_ := Aside0.mk (hp_); have n2_ := Aside0.mk (Kd.S_over' (v := (.slice (some ⟨go18, 0, none⟩) x4_3.length co19)) (uS_ HO_5.out) (Kd.R_typed HO_4.out) (by decide) hg); have n3_ := Aside0.mk (Kd.R_over' (v := (.slice (some ⟨go18, 0, none⟩) x4_3.length co19)) (uR_ HO_7.out) (Kd.R_typed HO_4.out) (by decide) hg); have n4_ := Aside0.mk (Kd.R_over' (v := (.slice (some ⟨go18, 0, none⟩) x4_3.length co19)) (uR_ HO_8.out) (Kd.R_typed HO_4.out) (by decide) hg); have n5_ := Aside0.mk (Kd.R_over' (v := (.slice (some ⟨go18, 0, none⟩) x4_3.length co19)) (uR_ HO_48.out) (Kd.R_typed HO_4.out) (by decide) hg); have n6_ := Aside0.mk (blk_grown (g := gb435) (o := .cells #[.int .i64 a0_0, .slice A0_1 l0_1.length c0_1] 30 (0, 0)) (uB_ BK435.out) hg (Kd.R_ne HO_4.out BK435.out (by decide))); have n7_ := Aside0.mk ((by rw [hw]; exact qae (HB.out) GB18.out : Below w.heap.size w w43)); clear HO_3; clear HO_4; clear HO_5; clear HO_7; clear HO_8; clear HO_48; clear BK435; clear HB; have HO_3 := n0_; have HO_4 := n1_; have HO_5 := n2_; have HO_7 := n3_; have HO_8 := n4_; have HO_48 := n5_; have BK435 := n6_; have HB := n7_; clear n0_ n1_ n2_ n3_ n4_ n5_ n6_ n7_; clear hg hw hp_) | ((with_reducible refine gate_builtin (b := .append) (xs := #[.tmp 62, .tmp 64]) rfl ?_); at_builtin; refine Kd.R_append (Kd.int .i64) (w0 := w) w.heap.size rfl (.tmp 62) (.tmp 64) 36 3 (.int .i64 0) 8 rfl Tryd.underlying36 info3 rfl (by decide) (by omega) u7 x7_3 (rd t455 x50_3) [.int .i64 (rd t455 x50_3)] (fun k_ => some k_ ≠ (v452 : Value).ownBlock ∧ some k_ ≠ (.slice (some ad458) t455.length co32 : Value).ownBlock) (fun _ => False) rfl rfl ?aP (fun _ hk => hk.elim) ?aF ?aO ?aB ?aS ?aL ?_; (case aP => exact rfl); (case aB => exact (hB1_ GE435.out)); (case aF => exact (fun k_ hk => ⟨Kd.fresh' (Kd.R_lt (uR_ HO_8.out)) k_ hk, Kd.fresh' (Kd.R_lt (uR_ HO_48.out)) k_ hk⟩)); (case aO => exact (uR_ HO_7.out)); (case aS => exact (qal (hB1_ GE435.out))); (case aL => have := LMc41.out; omega); intro v462 w44 ho hb hg hat; rw [← Ny461.out] at ho; have n0_ := Aside0.mk (Kd.S_over' (uS_ HO_3.out) (Kd.R_typed (uR_ HO_7.out)) (by decide) hg); have n1_ := Aside0.mk (Kd.R_over' (uR_ HO_4.out) (Kd.R_typed (uR_ HO_7.out)) (by decide) hg); have n2_ := Aside0.mk (Kd.S_after (ok := (fun k_ => some k_ ≠ (v452 : Value).ownBlock ∧ some k_ ≠ (.slice (some ad458) t455.length co32 : Value).ownBlock)) (by (with_reducible repeat (first | apply Kd.S_alloc | apply Kd.S_drewN | apply Kd.S_drew)); exact Kd.S_mono HO_5.out (fun _ hk => ⟨⟨hk.2.1, hk.2.2⟩, hk.1⟩)) hg hat); have n3_ := Aside0.mk (Kd.R_after (ok := (fun k_ => some k_ ≠ (.slice (some ad458) t455.length co32 : Value).ownBlock)) (by (with_reducible repeat (first | apply Kd.qat | apply Kd.qas | apply Kd.R_drew)); exact Kd.R_mono HO_8.out (fun _ hk => ⟨hk.2, hk.1⟩)) hg hat); have n4_ := Aside0.mk (Kd.R_after (ok := (fun k_ => some k_ ≠ (v452 : Value).ownBlock)) (by (with_reducible repeat (first | apply Kd.qat | apply Kd.qas | apply Kd.R_drew)); exact Kd.R_mono HO_48.out (fun _ hk => ⟨hk.2, hk.1⟩)) hg hat); have n5_ := Aside0.mk (blk_grown (g := gb435) (o := .cells #[.int .i64 a0_0, .slice A0_1 l0_1.length c0_1] 30 (0, 0)) (uB_ BK435.out) hg (Kd.R_ne HO_7.out BK435.out (by decide))); have n6_ := Aside0.mk (hb); have n7_ := Aside0.mk (ho); clear HO_3; clear HO_4; clear HO_5; clear HO_8; clear HO_48; clear BK435; clear HB; clear HO_7; have HO_3 := n0_; have HO_4 := n1_; have HO_5 := n2_; have HO_8 := n3_; have HO_48 := n4_; have BK435 := n5_; have HB := n6_; have HO463 := n7_; clear n0_ n1_ n2_ n3_ n4_ n5_ n6_ n7_; clear ho hb hg hat))
                      (try simp only [← hl4_3])
                      go_roundg k3
                      case measure => have := HK1.out; have := HK2.out; have := HK3.out; omega
                      case rel => exact ⟨(y460), (y461), (wrap64 (x50_3 + 1)), rS_, H', ⟨by have := HK1.out; have := HK2.out; have := HK3.out; omega⟩, ⟨by (try simp only [hl4_2]); (try simp only [hl4_3]); (with_reducible repeat (first | apply Kd.S_alloc | apply Kd.S_drewN | apply Kd.S_drew)); exact Kd.S_mono HO_3.out (fun _ hk => hk.2)⟩, ⟨by (try simp only [hl4_2]); (try simp only [hl4_3]); (with_reducible repeat (first | apply Kd.qat | apply Kd.qas | apply Kd.R_drew)); exact HO_4.out⟩, ⟨by (try simp only [hl4_2]); (try simp only [hl4_3]); (with_reducible repeat (first | apply Kd.S_alloc | apply Kd.S_drewN | apply Kd.S_drew)); exact Kd.S_mono HO_5.out (fun _ hk => ⟨hk.2, ⟨hk.1.1, hk.1.2⟩⟩)⟩, ⟨by (try simp only [hl4_2]); (try simp only [hl4_3]); (with_reducible repeat (first | apply Kd.qat | apply Kd.qas | apply Kd.R_drew)); exact HO463.out⟩, ⟨by (try simp only [hl4_2]); (try simp only [hl4_3]); (with_reducible repeat (first | apply Kd.qat | apply Kd.qas | apply Kd.R_drew)); exact Kd.R_mono HO_8.out (fun _ hk => ⟨hk.2, hk.1⟩)⟩, ⟨by (try simp only [hl4_2]); (try simp only [hl4_3]); (with_reducible repeat (first | apply Kd.qat | apply Kd.qas | apply Kd.R_drew)); exact Kd.R_mono HO_48.out (fun _ hk => ⟨hk.2, hk.1⟩)⟩, ⟨by (try simp only [hl4_2]); (try simp only [hl4_3]); (with_reducible repeat (first | refine qah ?_ _ | refine qaj ?_ | refine qai ?_ _)); exact BK435.out⟩, ⟨by repeat (first | (with_reducible first | exact HB.out | apply qad | apply qaa | apply qac | refine qae ?_ GE435.out) | exact HB.out)⟩⟩
                     ·rw [if_neg c41] at H
                      exact absurd H (by simp)
                   ·rw [if_neg c37] at H
                    exact absurd H (by simp)
                  ·rw [if_neg c36] at H
                   exact absurd H (by simp)
                 ·rw [if_neg c35] at H
                  exact absurd H (by simp)
                ·rw [if_neg c34] at H
                 exact absurd H (by simp)
               ·rw [if_neg c33] at H
                have c33b0 : decide (x50_3 < (t455.length : Int)) = false := decide_eq_false c33
                (try (have c33b0_0 := c33b0; simp only [hl4_2] at c33b0_0)); (try (have c33b0_1 := c33b0; simp only [hl4_3] at c33b0_1))
                clear c33
                have H' := Aside0.mk H
                clear H
                go_wp2
                (try simp only [← hl4_2, ← hl4_3])
                go_roundg k3
                case measure => have := HK1.out; have := HK2.out; have := HK3.out; omega
                case rel => exact ⟨(x4_3), (x7_3), (t451), (wrap64 (x9_2 + 1)), rS_, H', ⟨by have := HK1.out; have := HK2.out; have := HK3.out; omega⟩, ⟨by (try simp only [hl4_2]); (try simp only [hl4_3]); (with_reducible repeat (first | apply Kd.S_alloc | apply Kd.S_drewN | apply Kd.S_drew)); exact HO_3.out⟩, ⟨by (try simp only [hl4_2]); (try simp only [hl4_3]); (with_reducible repeat (first | apply Kd.qat | apply Kd.qas | apply Kd.R_drew)); exact HO_4.out⟩, ⟨by (try simp only [hl4_2]); (try simp only [hl4_3]); (with_reducible repeat (first | apply Kd.S_alloc | apply Kd.S_drewN | apply Kd.S_drew)); exact Kd.S_mono HO_5.out (fun _ hk => ⟨hk.1, hk.2.1⟩)⟩, ⟨by (try simp only [hl4_2]); (try simp only [hl4_3]); (with_reducible repeat (first | apply Kd.qat | apply Kd.qas | apply Kd.R_drew)); exact Kd.R_mono HO_7.out (fun _ hk => hk.1)⟩, ⟨by (try simp only [hl4_2]); (try simp only [hl4_3]); (with_reducible repeat (first | apply Kd.qat | apply Kd.qas | apply Kd.R_drew)); exact Kd.R_mono HO_8.out (fun _ hk => hk.1)⟩, ⟨by (try simp only [hl4_2]); (try simp only [hl4_3]); (with_reducible repeat (first | refine qah ?_ _ | refine qaj ?_ | refine qai ?_ _)); exact BK435.out⟩, ⟨by repeat (first | (with_reducible first | exact HB.out | apply qad | apply qaa | apply qac | refine qae ?_ GE435.out) | exact HB.out)⟩⟩
            ·rw [if_neg c25] at H
             exact absurd H (by simp)
           ·rw [if_neg c24] at H
            have c24b0 : decide (x9_2 < (x7_2.length : Int)) = false := decide_eq_false c24
            (try (have c24b0_0 := c24b0; simp only [hl4_2] at c24b0_0))
            clear c24
            by_cases c45 : x5_1.length < 5864062014805
            ·rw [if_pos c45] at H
             have LMc45 := Aside0.mk c45
             clear c45
             obtain ⟨y447, hy447⟩ : ∃ y_ : List (List Int), y_ = (x5_1 ++ [x8_2]) := ⟨_, rfl⟩
             replace H : (spec_paParts.l0 k2 t436 x4_2 y447 (t436.length : Int) (wrap64 (x19_1 + 1))) = some r := by first | (rw [hy447]; with_reducible exact H) | (have H2_ := (Option.bind_some _ _).symm.trans H; rw [hy447]; with_reducible exact H2_) | (have H2_ := (Option.bind_some _ _).symm.trans H; with_reducible exact H2_) | with_reducible exact H | (rw [hy447]; exact H) | exact H
             have Ny447 := Aside0.mk hy447
             clear hy447
             have H' := Aside0.mk H
             clear H
             obtain ⟨Ao46, co46, eo46⟩ := Kd.R_slice HO_7.out
             subst eo46
             obtain ⟨Ao48, co48, eo48⟩ := Kd.R_slice HO_8.out
             subst eo48
             go_wp2_with (first | ((with_reducible refine gate_builtin (b := .append) (xs := #[.tmp 67, .tmp 69]) rfl ?_); at_builtin; refine Kd.S_append (Kd.slice 3 (Kd.int .i64)) (w0 := w) w.heap.size rfl (.tmp 67) (.tmp 69) 76 36 (.slice none 0 0) 24 rfl Tryd.underlying76 info36 rfl (by decide) (by omega) u5 x5_1 x8_2 [.slice Ao48 x8_2.length co48] (fun k_ => some k_ ≠ (.slice Ao46 x7_2.length co46 : Value).ownBlock) (fun k_ => some k_ = (.slice Ao48 x8_2.length co48 : Value).ownBlock) rfl rfl ?aP (fun k_ hk_ => ((Kd.R_mono (ok' := fun k_ => ((fun k_ => some k_ ≠ (.slice Ao46 x7_2.length co46 : Value).ownBlock)) k_ ∧ some k_ ≠ (u5 : Value).ownBlock) (Kd.R_apart' (HO_8.out) (Kd.S_typed HO_5.out) (by decide)) (fun k_ hk => ⟨hk.1, hk.2⟩))).1 k_ hk_.symm) ?aF ?aO ?aB ?aS ?aL ?_; (case aP => exact Kd.M_row (Kd.R_mono (Kd.R_tight rfl (Kd.R_mono (ok' := fun k_ => ((fun k_ => some k_ ≠ (.slice Ao46 x7_2.length co46 : Value).ownBlock)) k_ ∧ some k_ ≠ (u5 : Value).ownBlock) (Kd.R_apart' (HO_8.out) (Kd.S_typed HO_5.out) (by decide)) (fun k_ hk => ⟨hk.1, hk.2⟩))) (fun _ h_ => h_))); (case aB => exact (hB1_ GE435.out)); (case aF => exact (fun k_ hk => Kd.fresh' (Kd.R_lt (uR_ HO_7.out)) k_ hk)); (case aO => exact (by (with_reducible repeat (first | apply Kd.S_alloc | apply Kd.S_drewN | apply Kd.S_drew)); exact Kd.S_mono HO_5.out (fun k_ hk => ⟨hk.1, fun e_ => hk.2 e_⟩))); (case aS => exact (qal (hB1_ GE435.out))); (case aL => have := LMc45.out; omega); intro v448 w47 ho hb hg hat; rw [← Ny447.out] at ho; have n0_ := Aside0.mk (Kd.S_over' (uS_ HO_3.out) (Kd.S_typed (uS_ HO_5.out)) (by decide) hg); have n1_ := Aside0.mk (Kd.R_over' (uR_ HO_4.out) (Kd.S_typed (uS_ HO_5.out)) (by decide) hg); have n2_ := Aside0.mk (Kd.R_over' (uR_ HO_7.out) (Kd.S_typed (uS_ HO_5.out)) (by decide) hg); have n3_ := Aside0.mk (blk_grown (g := gb435) (o := .cells #[.int .i64 a0_0, .slice A0_1 l0_1.length c0_1] 30 (0, 0)) (uB_ BK435.out) hg (Kd.S_ne HO_5.out BK435.out (by decide))); have n4_ := Aside0.mk (hb); have n5_ := Aside0.mk (ho); clear HO_3; clear HO_4; clear HO_7; clear BK435; clear HB; clear HO_5; clear HO_8; have HO_3 := n0_; have HO_4 := n1_; have HO_7 := n2_; have BK435 := n3_; have HB := n4_; have HO449 := n5_; clear n0_ n1_ n2_ n3_ n4_ n5_; clear ho hb hg hat))
             (try simp only [← hl4_2])
             go_roundg k2
             case measure => have := HK1.out; have := HK2.out; omega
             case rel => exact ⟨(x4_2), (y447), (wrap64 (x19_1 + 1)), rS_, H', ⟨by have := HK1.out; have := HK2.out; omega⟩, ⟨by (try simp only [hl4_2]); (with_reducible repeat (first | apply Kd.S_alloc | apply Kd.S_drewN | apply Kd.S_drew)); exact HO_3.out⟩, ⟨by (try simp only [hl4_2]); (with_reducible repeat (first | apply Kd.qat | apply Kd.qas | apply Kd.R_drew)); exact HO_4.out⟩, ⟨by (try simp only [hl4_2]); (with_reducible repeat (first | apply Kd.S_alloc | apply Kd.S_drewN | apply Kd.S_drew)); exact Kd.S_mono HO449.out (fun _ hk => trivial)⟩, ⟨by (try simp only [hl4_2]); (with_reducible repeat (first | refine qah ?_ _ | refine qaj ?_ | refine qai ?_ _)); exact BK435.out⟩, ⟨by repeat (first | (with_reducible first | exact HB.out | apply qad | apply qaa | apply qac | refine qae ?_ GE435.out) | exact HB.out)⟩⟩
            ·rw [if_neg c45] at H
             exact absurd H (by simp)
       ·rw [if_neg c14] at H
        exact absurd H (by simp)
      ·rw [if_neg c13] at H
       exact absurd H (by simp)
     ·rw [if_neg c12] at H
      have c12b0 : decide (x19_1 < (t436.length : Int)) = false := decide_eq_false c12
      clear c12
      obtain rfl := Option.some.inj H
      go_wp2
      go_ret
      exact ⟨_, by first | rfl | (simp [errW_none, errW_some] <;> rfl) | (simp [*, errW_none, errW_some] <;> rfl), by (with_reducible repeat (first | apply Kd.S_alloc | apply Kd.S_drewN | apply Kd.S_drew)); exact HO_5.out, by repeat (first | (with_reducible first | exact HB.out | apply qad | apply qaa | apply qac | refine qae ?_ GE435.out) | exact HB.out)⟩
  ·rw [if_neg c4] at H
   exact absurd H (by simp)
 ·rw [if_neg c3] at H
  exact absurd H (by simp)

end Go.Proofs.YtedfcbbklhfgcaaDoor.Q
namespace Go.Proofs.YtedfcbbklhfgcaaDoor.Q
open Go.RowKit Go.Proofs.YtedfcbbklhfgcaaDoorW.PrintWords Go.Proofs.YtedfcbbklhfgcaaDoorW.PrintLast Go.Proofs.YtedfcbbklhfgcaaDoorW.PrintMore
attribute [local go_sem] max2_int min2_int max_two min_two max_three min_three max_four min_four   -- for this text's walks alone
set_option linter.unusedVariables false
set_option linter.unusedSimpArgs false

/-! ### spec_taTables: function 43 -/
mutual
def spec_taTables.l0 : Nat → List (List Bool) → List Int → Int → Int → Int → List (S56) → Option (List Int × Bool)
 | 0, _, _, _, _, _, _ => none
 | k + 1, x4, x5, x15, x16, x470000, x470001 => if x16 < x15 then (if x5.length < 17592186044416 then (spec_taTables.l0 k x4 (x5 ++ [(-1)]) x15 (wrap64 (x16 + 1)) x470000 x470001) else (none)) else ((spec_paParts.f k x470000 x470001).bind fun t476 => (spec_taTables.l1 k x4 x5 t476 (t476.length : Int) 0 x470000 x470001))
def spec_taTables.l1 : Nat → List (List Bool) → List Int → List (List Int) → Int → Int → Int → List (S56) → Option (List Int × Bool)
 | 0, _, _, _, _, _, _, _ => none
 | k + 1, x4, x5, x23, x24, x25, x470000, x470001 => if x25 < x24 then (if 0 ≤ x25 then (if x25 < (x23.length : Int) then (if 0 < ((rd_L6 x23 x25).length : Int) then (if 0 ≤ (rd (rd_L6 x23 x25) 0) then (if (rd (rd_L6 x23 x25) 0) < (x5.length : Int) then (spec_taTables.l2 k x4 (x5.set ((rd (rd_L6 x23 x25) 0) : Int).toNat 0) (([rd (rd_L6 x23 x25) 0] : List Int)) 0 x23 x24 x25 x470000 x470001) else (none)) else (none)) else (none)) else (none)) else (none)) else ((spec_grDiffer.f k x470000 x470001 x5).bind fun t479 => (if t479 = true then (some (x5, true)) else (some (([] : List Int), false))))
def spec_taTables.l2 : Nat → List (List Bool) → List Int → List Int → Int → List (List Int) → Int → Int → Int → List (S56) → Option (List Int × Bool)
 | 0, _, _, _, _, _, _, _, _, _ => none
 | k + 1, x4, x5, x8, x9, x23, x24, x25, x470000, x470001 => if x9 < (x8.length : Int) then (if 0 ≤ x9 then ((spec_paFriends.f k x4 (rd x8 x9)).bind fun t488 => (spec_taTables.l3 k x4 x5 x8 x9 x23 x24 x25 t488 (t488.length : Int) 0 x470000 x470001)) else (none)) else (spec_taTables.l1 k x4 x5 x23 x24 (wrap64 (x25 + 1)) x470000 x470001)
def spec_taTables.l3 : Nat → List (List Bool) → List Int → List Int → Int → List (List Int) → Int → Int → List Int → Int → Int → Int → List (S56) → Option (List Int × Bool)
 | 0, _, _, _, _, _, _, _, _, _, _, _, _ => none
 | k + 1, x4, x5, x8, x9, x23, x24, x25, x49, x50, x51, x470000, x470001 => if x51 < x50 then (if 0 ≤ x51 then (if x51 < (x49.length : Int) then (if 0 ≤ (rd x49 x51) then (if (rd x49 x51) < (x5.length : Int) then (if (rd x5 (rd x49 x51)) < 0 then (if 0 ≤ x9 then (if x9 < (x8.length : Int) then (if 0 ≤ (rd x8 x9) then (if (rd x8 x9) < (x5.length : Int) then (if x8.length < 17592186044416 then (spec_taTables.l3 k x4 (x5.set ((rd x49 x51) : Int).toNat (wrap64 (1 - (rd x5 (rd x8 x9))))) (x8 ++ [rd x49 x51]) x9 x23 x24 x25 x49 x50 (wrap64 (x51 + 1)) x470000 x470001) else (none)) else (none)) else (none)) else (none)) else (none)) else (spec_taTables.l3 k x4 x5 x8 x9 x23 x24 x25 x49 x50 (wrap64 (x51 + 1)) x470000 x470001)) else (none)) else (none)) else (none)) else (none)) else (spec_taTables.l2 k x4 x5 x8 (wrap64 (x9 + 1)) x23 x24 x25 x470000 x470001)
end
def spec_taTables.f (k : Nat) (a0_0 : Int) (l0_1 : List (S56)) : Option (List Int × Bool) := (spec_paTable.f k a0_0 l0_1).bind fun t470 => (spec_taTables.l0 k t470 ([] : List Int) (t470.length : Int) 0 a0_0 l0_1)
theorem spec_taTables.mono_l : ∀ k, (∀ y0 y1 y2 y3 y4 y5, LeO (spec_taTables.l0 k y0 y1 y2 y3 y4 y5) (spec_taTables.l0 (k + 1) y0 y1 y2 y3 y4 y5)) ∧ (∀ y0 y1 y2 y3 y4 y5 y6, LeO (spec_taTables.l1 k y0 y1 y2 y3 y4 y5 y6) (spec_taTables.l1 (k + 1) y0 y1 y2 y3 y4 y5 y6)) ∧ (∀ y0 y1 y2 y3 y4 y5 y6 y7 y8, LeO (spec_taTables.l2 k y0 y1 y2 y3 y4 y5 y6 y7 y8) (spec_taTables.l2 (k + 1) y0 y1 y2 y3 y4 y5 y6 y7 y8)) ∧ (∀ y0 y1 y2 y3 y4 y5 y6 y7 y8 y9 y10 y11, LeO (spec_taTables.l3 k y0 y1 y2 y3 y4 y5 y6 y7 y8 y9 y10 y11) (spec_taTables.l3 (k + 1) y0 y1 y2 y3 y4 y5 y6 y7 y8 y9 y10 y11))
 | 0 => ⟨fun _ _ _ _ _ _ r h => by simp [spec_taTables.l0] at h, fun _ _ _ _ _ _ _ r h => by simp [spec_taTables.l1] at h, fun _ _ _ _ _ _ _ _ _ r h => by simp [spec_taTables.l2] at h, fun _ _ _ _ _ _ _ _ _ _ _ _ r h => by simp [spec_taTables.l3] at h⟩
 | k + 1 => by
  obtain ⟨ih0, ih1, ih2, ih3⟩ := spec_taTables.mono_l k
  refine ⟨?_, ?_, ?_, ?_⟩
  ·intro y0 y1 y2 y3 y4 y5
   unfold spec_taTables.l0
   repeat' first
   | (with_reducible exact ih0 _ _ _ _ _ _)
   | (with_reducible exact ih1 _ _ _ _ _ _ _)
   | (with_reducible exact ih2 _ _ _ _ _ _ _ _ _)
   | (with_reducible exact ih3 _ _ _ _ _ _ _ _ _ _ _ _)
   | (with_reducible exact spec_grDiffer.mono _ _ _ _)
   | (with_reducible exact spec_paFriends.mono _ _ _)
   | (with_reducible exact spec_paParts.mono _ _ _)
   | (with_reducible exact spec_paTable.mono _ _ _)
   | (with_reducible exact LeO.refl _)
   | (with_reducible exact LeO.none _)
   | (with_reducible refine LeO.ite ?_ ?_)
   | (with_reducible refine LeO.bind ?_ (fun _ => ?_))
   | exact ih0 _ _ _ _ _ _
   | exact ih1 _ _ _ _ _ _ _
   | exact ih2 _ _ _ _ _ _ _ _ _
   | exact ih3 _ _ _ _ _ _ _ _ _ _ _ _
   | exact spec_grDiffer.mono _ _ _ _
   | exact spec_paFriends.mono _ _ _
   | exact spec_paParts.mono _ _ _
   | exact spec_paTable.mono _ _ _
   | exact LeO.none _
   | refine LeO.ite ?_ ?_
   | refine LeO.bind ?_ (fun _ => ?_)
  ·intro y0 y1 y2 y3 y4 y5 y6
   unfold spec_taTables.l1
   repeat' first
   | (with_reducible exact ih0 _ _ _ _ _ _)
   | (with_reducible exact ih1 _ _ _ _ _ _ _)
   | (with_reducible exact ih2 _ _ _ _ _ _ _ _ _)
   | (with_reducible exact ih3 _ _ _ _ _ _ _ _ _ _ _ _)
   | (with_reducible exact spec_grDiffer.mono _ _ _ _)
   | (with_reducible exact spec_paFriends.mono _ _ _)
   | (with_reducible exact spec_paParts.mono _ _ _)
   | (with_reducible exact spec_paTable.mono _ _ _)
   | (with_reducible exact LeO.refl _)
   | (with_reducible exact LeO.none _)
   | (with_reducible refine LeO.ite ?_ ?_)
   | (with_reducible refine LeO.bind ?_ (fun _ => ?_))
   | exact ih0 _ _ _ _ _ _
   | exact ih1 _ _ _ _ _ _ _
   | exact ih2 _ _ _ _ _ _ _ _ _
   | exact ih3 _ _ _ _ _ _ _ _ _ _ _ _
   | exact spec_grDiffer.mono _ _ _ _
   | exact spec_paFriends.mono _ _ _
   | exact spec_paParts.mono _ _ _
   | exact spec_paTable.mono _ _ _
   | exact LeO.none _
   | refine LeO.ite ?_ ?_
   | refine LeO.bind ?_ (fun _ => ?_)
  ·intro y0 y1 y2 y3 y4 y5 y6 y7 y8
   unfold spec_taTables.l2
   repeat' first
   | (with_reducible exact ih0 _ _ _ _ _ _)
   | (with_reducible exact ih1 _ _ _ _ _ _ _)
   | (with_reducible exact ih2 _ _ _ _ _ _ _ _ _)
   | (with_reducible exact ih3 _ _ _ _ _ _ _ _ _ _ _ _)
   | (with_reducible exact spec_grDiffer.mono _ _ _ _)
   | (with_reducible exact spec_paFriends.mono _ _ _)
   | (with_reducible exact spec_paParts.mono _ _ _)
   | (with_reducible exact spec_paTable.mono _ _ _)
   | (with_reducible exact LeO.refl _)
   | (with_reducible exact LeO.none _)
   | (with_reducible refine LeO.ite ?_ ?_)
   | (with_reducible refine LeO.bind ?_ (fun _ => ?_))
   | exact ih0 _ _ _ _ _ _
   | exact ih1 _ _ _ _ _ _ _
   | exact ih2 _ _ _ _ _ _ _ _ _
   | exact ih3 _ _ _ _ _ _ _ _ _ _ _ _
   | exact spec_grDiffer.mono _ _ _ _
   | exact spec_paFriends.mono _ _ _
   | exact spec_paParts.mono _ _ _
   | exact spec_paTable.mono _ _ _
   | exact LeO.none _
   | refine LeO.ite ?_ ?_
   | refine LeO.bind ?_ (fun _ => ?_)
  ·intro y0 y1 y2 y3 y4 y5 y6 y7 y8 y9 y10 y11
   unfold spec_taTables.l3
   repeat' first
   | (with_reducible exact ih0 _ _ _ _ _ _)
   | (with_reducible exact ih1 _ _ _ _ _ _ _)
   | (with_reducible exact ih2 _ _ _ _ _ _ _ _ _)
   | (with_reducible exact ih3 _ _ _ _ _ _ _ _ _ _ _ _)
   | (with_reducible exact spec_grDiffer.mono _ _ _ _)
   | (with_reducible exact spec_paFriends.mono _ _ _)
   | (with_reducible exact spec_paParts.mono _ _ _)
   | (with_reducible exact spec_paTable.mono _ _ _)
   | (with_reducible exact LeO.refl _)
   | (with_reducible exact LeO.none _)
   | (with_reducible refine LeO.ite ?_ ?_)
   | (with_reducible refine LeO.bind ?_ (fun _ => ?_))
   | exact ih0 _ _ _ _ _ _
   | exact ih1 _ _ _ _ _ _ _
   | exact ih2 _ _ _ _ _ _ _ _ _
   | exact ih3 _ _ _ _ _ _ _ _ _ _ _ _
   | exact spec_grDiffer.mono _ _ _ _
   | exact spec_paFriends.mono _ _ _
   | exact spec_paParts.mono _ _ _
   | exact spec_paTable.mono _ _ _
   | exact LeO.none _
   | refine LeO.ite ?_ ?_
   | refine LeO.bind ?_ (fun _ => ?_)
theorem spec_taTables.mono : ∀ a0 a1 k, LeO (spec_taTables.f k a0 a1) (spec_taTables.f (k + 1) a0 a1) := by
 intro a0 a1 k
 obtain ⟨ih0, ih1, ih2, ih3⟩ := spec_taTables.mono_l k
 unfold spec_taTables.f
 repeat' first
   | (with_reducible exact ih0 _ _ _ _ _ _)
   | (with_reducible exact ih1 _ _ _ _ _ _ _)
   | (with_reducible exact ih2 _ _ _ _ _ _ _ _ _)
   | (with_reducible exact ih3 _ _ _ _ _ _ _ _ _ _ _ _)
   | (with_reducible exact spec_grDiffer.mono _ _ _ _)
   | (with_reducible exact spec_paFriends.mono _ _ _)
   | (with_reducible exact spec_paParts.mono _ _ _)
   | (with_reducible exact spec_paTable.mono _ _ _)
   | (with_reducible exact LeO.refl _)
   | (with_reducible exact LeO.none _)
   | (with_reducible refine LeO.ite ?_ ?_)
   | (with_reducible refine LeO.bind ?_ (fun _ => ?_))
   | exact ih0 _ _ _ _ _ _
   | exact ih1 _ _ _ _ _ _ _
   | exact ih2 _ _ _ _ _ _ _ _ _
   | exact ih3 _ _ _ _ _ _ _ _ _ _ _ _
   | exact spec_grDiffer.mono _ _ _ _
   | exact spec_paFriends.mono _ _ _
   | exact spec_paParts.mono _ _ _
   | exact spec_paTable.mono _ _ _
   | exact LeO.none _
   | refine LeO.ite ?_ ?_
   | refine LeO.bind ?_ (fun _ => ?_)
set_option maxHeartbeats 8000000 in
set_option maxRecDepth 100000 in
theorem spec_taTables.calls (k : Nat) (a0_0 : Int) (A0_1 : Option Addr) (c0_1 : Nat) (l0_1 : List (S56)) (r1 : List Int) (r2 : Bool) (w : World) (hr0_1 : Kd.C k56 w A0_1 l0_1.length l0_1) (hc0_1 : l0_1.length ≤ c0_1) (h : spec_taTables.f k a0_0 l0_1 = some (r1, r2)) :
  Calls Tryd.prog 43 #[.agg #[.int .i64 a0_0, .slice A0_1 l0_1.length c0_1]] w fun e w' => ∃ v0_ : Value, e = .returned (.tuple #[v0_, .bool r2]) ∧ Kd.R (Kd.int .i64) 3 w' w.heap.size (fun _ => True) v0_ r1 ∧ Below w.heap.size w w' := by
 have hu30 := Tryd.underlying30
 have HR0_1 := Aside0.mk hr0_1
 have HC0_1 := Aside0.mk hc0_1
 clear hr0_1 hc0_1
 have HB := Aside0.mk (Below.refl w.heap.size w)
 have H : ((spec_paTable.f k a0_0 l0_1).bind fun t470 => (spec_taTables.l0 k t470 ([] : List Int) (t470.length : Int) 0 a0_0 l0_1)) = some (r1, r2) := h
 clear h
 replace H := Option.bind_eq_some_iff.mp H
 obtain ⟨t470, A20, H⟩ := H
 replace H : (spec_taTables.l0 k t470 ([] : List Int) (t470.length : Int) 0 a0_0 l0_1) = some (r1, r2) := H
 have A2 := Aside0.mk A20
 clear A20
 have H' := Aside0.mk H
 clear H
 go_enter Tryd.func43, Tryd.ntmps43
 go_wp2_with (first | ((with_reducible refine gate_dst (N := 1) rfl ?_); refine box_event ?hg (N := 1) ?hd (cs := #[.int .i64 a0_0, .slice A0_1 l0_1.length c0_1]) (t := 30) ?hr ?_; (case hd => rfl); (case hg => rfl); (case hr => first | (go_simp; done) | (go_simp; rfl)); intro gb469 hg w3 hbox hb; have n0_ := Aside0.mk (qak hB_ hb); have n1_ := Aside0.mk (hbox); have n2_ := Aside0.mk ((by rw [hg]; exact (qal hB_) : w.heap.size ≤ gb469)); have n3_ := n2_; clear HB; have HB := n0_; have BK469 := n1_; have GW469 := n2_; have GE469 := n3_; clear n0_ n1_ n2_ n3_; clear hb hbox hg; have hcz4_0 : w3.cell? ⟨gb469, 0, none⟩ = some (.int .i64 a0_0) := (qab BK469.out 0).trans rfl; have hcz4_1 : w3.cell? ⟨gb469, 1, none⟩ = some (.slice A0_1 l0_1.length c0_1) := (qab BK469.out 1).trans rfl; have hfz4_0 := qaf BK469.out 0; have hfz4_1 := qaf BK469.out 1) | ((with_reducible refine qao (f := 29) rfl ?_); refine goesL_ (some 13) rfl rfl Tryd.func29 (by kernel_rfl) rfl #[.agg #[.int .i64 a0_0, .slice A0_1 l0_1.length c0_1]] rfl mT_ ?_; (with_reducible refine (spec_paTable.calls k a0_0 _ _ l0_1 t470 _ ?side1 ?side2 A2.out).mono ?_); (case side1 => repeat (first | exact (Kd.C_below HR0_1.out HB.out) | (with_reducible refine Kd.C_alloc ?_ _) | (with_reducible refine Kd.C_drewN ?_ _) | (with_reducible refine Kd.C_drew ?_))); (case side2 => exact HC0_1.out); rintro e w5 ⟨v471, rfl, ho0, hb⟩; refine ⟨_, rfl, ?_⟩; have n0_ := Aside0.mk (Kd.S_lower ho0 (qal (hB1_ GE469.out))); have n1_ := Aside0.mk (qap (g := gb469) (o := .cells #[.int .i64 a0_0, .slice A0_1 l0_1.length c0_1] 30 (0, 0)) (uB_ BK469.out) hb); have n2_ := Aside0.mk (qak (hB1_ GE469.out) hb); clear BK469; clear HB; have HO472 := n0_; have BK469 := n1_; have HB := n2_; clear n0_ n1_ n2_; (try clear hb); (try clear hb2); (try clear hk); (try clear hi); (try clear ho0); obtain ⟨Ao6, co6, eo6⟩ := Kd.S_slice HO472.out; subst eo6))
 go_loopg [5, 16] k (fun kq v5 v16 w' => ∃ (x5_1 : List Int) (x16_1 : Int), v16 = .int .i64 x16_1 ∧ Aside0 (spec_taTables.l0 kq t470 x5_1 (t470.length : Int) x16_1 a0_0 l0_1 = some (r1, r2)) ∧ Aside0 (kq ≤ k) ∧ Aside0 (Kd.S (Kd.slice 4 Kd.bool) 57 w' w.heap.size (fun _ => True) (.slice Ao6 t470.length co6) t470) ∧ Aside0 (Kd.R (Kd.int .i64) 3 w' w.heap.size (fun _ => True) v5 x5_1) ∧ Aside0 (w'.heap[gb469]? = some (.cells #[.int .i64 a0_0, (.slice A0_1 l0_1.length c0_1)] 30 (0, 0))) ∧ Aside0 (Below w.heap.size w w'))
 case atStart => exact ⟨(([] : List Int)), (0), rS_, H', ⟨Nat.le_refl _⟩, ⟨by (with_reducible repeat (first | apply Kd.S_alloc | apply Kd.S_drewN | apply Kd.S_drew)); exact HO472.out⟩, ⟨by first | exact Kd.R_nil _ _ _ _ _ | exact Kd.N_nil _ _ _ _ _ | exact Kd.V_nil _ _ _ _ _ | exact Kd.Q_nil _ _ _ _ _ | exact Kd.S_nil _ _ _ _ _⟩, ⟨by (with_reducible repeat (first | refine qah ?_ _ | refine qaj ?_ | refine qai ?_ _)); exact BK469.out⟩, ⟨by repeat (first | (with_reducible first | exact HB.out | apply qad | apply qaa | apply qac | refine qae ?_ GE469.out) | exact HB.out)⟩⟩
 case round =>
  clear H'
  obtain ⟨x5_1, x16_1, rfl, HA, HK1, HO_4, HO_5, BK469, HB⟩ := hrel
  cases gk with
  | zero => exact absurd HA.out (by simp [spec_taTables.l0])
  | succ k1 =>
   have H := HA.out
   clear HA
   simp only [spec_taTables.l0] at H
   by_cases c7 : x16_1 < (t470.length : Int)
   ·rw [if_pos c7] at H
    have c7b0 : decide (x16_1 < (t470.length : Int)) = true := decide_eq_true c7
    clear c7
    by_cases c8 : x5_1.length < 17592186044416
    ·rw [if_pos c8] at H
     have LMc8 := Aside0.mk c8
     clear c8
     obtain ⟨y473, hy473⟩ : ∃ y_ : List Int, y_ = (x5_1 ++ [(-1)]) := ⟨_, rfl⟩
     replace H : (spec_taTables.l0 k1 t470 y473 (t470.length : Int) (wrap64 (x16_1 + 1)) a0_0 l0_1) = some (r1, r2) := by first | (rw [hy473]; with_reducible exact H) | (have H2_ := (Option.bind_some _ _).symm.trans H; rw [hy473]; with_reducible exact H2_) | (have H2_ := (Option.bind_some _ _).symm.trans H; with_reducible exact H2_) | with_reducible exact H | (rw [hy473]; exact H) | exact H
     have Ny473 := Aside0.mk hy473
     clear hy473
     have H' := Aside0.mk H
     clear H
     go_wp2_with (first | ((with_reducible refine gate_builtin (b := .append) (xs := #[.tmp 18, .tmp 19]) rfl ?_); at_builtin; refine Kd.R_append (Kd.int .i64) (w0 := w) w.heap.size rfl (.tmp 18) (.tmp 19) 36 3 (.int .i64 0) 8 rfl Tryd.underlying36 info3 rfl (by decide) (by omega) u5 x5_1 (-1) [.int .i64 (-1)] (fun _ => True) (fun _ => False) rfl rfl ?aP (fun _ hk => hk.elim) ?aF ?aO ?aB ?aS ?aL ?_; (case aP => exact rfl); (case aB => exact (hB1_ GE469.out)); (case aF => exact (fun _ _ => trivial)); (case aO => exact (uR_ HO_5.out)); (case aS => exact (qal (hB1_ GE469.out))); (case aL => have := LMc8.out; omega); intro v474 w9 ho hb hg hat; rw [← Ny473.out] at ho; have n0_ := Aside0.mk (Kd.S_over' (uS_ HO_4.out) (Kd.R_typed (uR_ HO_5.out)) (by decide) hg); have n1_ := Aside0.mk (blk_grown (g := gb469) (o := .cells #[.int .i64 a0_0, .slice A0_1 l0_1.length c0_1] 30 (0, 0)) (uB_ BK469.out) hg (Kd.R_ne HO_5.out BK469.out (by decide))); have n2_ := Aside0.mk (hb); have n3_ := Aside0.mk (ho); clear HO_4; clear BK469; clear HB; clear HO_5; have HO_4 := n0_; have BK469 := n1_; have HB := n2_; have HO475 := n3_; clear n0_ n1_ n2_ n3_; clear ho hb hg hat))
     go_roundg k1
     case measure => have := HK1.out; omega
     case rel => exact ⟨(y473), (wrap64 (x16_1 + 1)), rS_, H', ⟨by have := HK1.out; omega⟩, ⟨by (with_reducible repeat (first | apply Kd.S_alloc | apply Kd.S_drewN | apply Kd.S_drew)); exact HO_4.out⟩, ⟨by (with_reducible repeat (first | apply Kd.qat | apply Kd.qas | apply Kd.R_drew)); exact HO475.out⟩, ⟨by (with_reducible repeat (first | refine qah ?_ _ | refine qaj ?_ | refine qai ?_ _)); exact BK469.out⟩, ⟨by repeat (first | (with_reducible first | exact HB.out | apply qad | apply qaa | apply qac | refine qae ?_ GE469.out) | exact HB.out)⟩⟩
    ·rw [if_neg c8] at H
     exact absurd H (by simp)
   ·rw [if_neg c7] at H
    have c7b0 : decide (x16_1 < (t470.length : Int)) = false := decide_eq_false c7
    clear c7
    replace H := Option.bind_eq_some_iff.mp H
    obtain ⟨t476, A100, H⟩ := H
    replace H : (spec_taTables.l1 k1 t470 x5_1 t476 (t476.length : Int) 0 a0_0 l0_1) = some (r1, r2) := H
    have A10 := Aside0.mk A100
    clear A100
    have H' := Aside0.mk H
    clear H
    have hcz11_0 : wr.cell? ⟨gb469, 0, none⟩ = some (.int .i64 a0_0) := (qab BK469.out 0).trans rfl
    have hcz11_1 : wr.cell? ⟨gb469, 1, none⟩ = some (.slice A0_1 l0_1.length c0_1) := (qab BK469.out 1).trans rfl
    have hfz11_0 := qaf BK469.out 0
    have hfz11_1 := qaf BK469.out 1
    go_wp2_with (first | ((with_reducible refine qao (f := 60) rfl ?_); refine goesL_ (some 23) rfl rfl Tryd.func60 (by kernel_rfl) rfl #[.agg #[.int .i64 a0_0, .slice A0_1 l0_1.length c0_1]] rfl mT_ ?_; (with_reducible refine (spec_paParts.calls k1 a0_0 _ _ l0_1 t476 _ ?side1 ?side2 A10.out).mono ?_); (case side1 => repeat (first | exact (Kd.C_below HR0_1.out HB.out) | (with_reducible refine Kd.C_alloc ?_ _) | (with_reducible refine Kd.C_drewN ?_ _) | (with_reducible refine Kd.C_drew ?_))); (case side2 => exact HC0_1.out); rintro e w12 ⟨v477, rfl, ho0, hb⟩; refine ⟨_, rfl, ?_⟩; have n0_ := Aside0.mk (Kd.S_below (uS_ HO_4.out) hb); have n1_ := Aside0.mk (Kd.R_below (uR_ HO_5.out) hb); have n2_ := Aside0.mk (Kd.S_lower (Kd.S_new' ho0 (Kd.R_lt (uR_ HO_5.out))) (qal (hB1_ GE469.out))); have n3_ := Aside0.mk (qap (g := gb469) (o := .cells #[.int .i64 a0_0, .slice A0_1 l0_1.length c0_1] 30 (0, 0)) (uB_ BK469.out) hb); have n4_ := Aside0.mk (qak (hB1_ GE469.out) hb); clear HO_4; clear HO_5; clear BK469; clear HB; have HO_4 := n0_; have HO_5 := n1_; have HO478 := n2_; have BK469 := n3_; have HB := n4_; clear n0_ n1_ n2_ n3_ n4_; (try clear hb); (try clear hb2); (try clear hk); (try clear hi); (try clear ho0); obtain ⟨Ao13, co13, eo13⟩ := Kd.S_slice HO478.out; subst eo13))
    go_loopg [25] k1 (fun kq v25 w' => ∃ (x5_2 : List Int) (x25_2 : Int), v25 = .int .i64 x25_2 ∧ Aside0 (spec_taTables.l1 kq t470 x5_2 t476 (t476.length : Int) x25_2 a0_0 l0_1 = some (r1, r2)) ∧ Aside0 (kq ≤ k1) ∧ Aside0 (Kd.S (Kd.slice 4 Kd.bool) 57 w' w.heap.size (fun _ => True) (.slice Ao6 t470.length co6) t470) ∧ Aside0 (Kd.R (Kd.int .i64) 3 w' w.heap.size (fun _ => True) u5 x5_2) ∧ Aside0 (Kd.S (Kd.slice 3 (Kd.int .i64)) 36 w' w.heap.size (fun k_ => some k_ ≠ (u5 : Value).ownBlock) (.slice Ao13 t476.length co13) t476) ∧ Aside0 (w'.heap[gb469]? = some (.cells #[.int .i64 a0_0, (.slice A0_1 l0_1.length c0_1)] 30 (0, 0))) ∧ Aside0 (Below w.heap.size w w'))
    case atStart => exact ⟨(x5_1), (0), rS_, H', ⟨Nat.le_refl _⟩, ⟨by (with_reducible repeat (first | apply Kd.S_alloc | apply Kd.S_drewN | apply Kd.S_drew)); exact HO_4.out⟩, ⟨by (with_reducible repeat (first | apply Kd.qat | apply Kd.qas | apply Kd.R_drew)); exact HO_5.out⟩, ⟨by (with_reducible repeat (first | apply Kd.S_alloc | apply Kd.S_drewN | apply Kd.S_drew)); exact Kd.S_mono HO478.out (fun _ hk => hk.2)⟩, ⟨by (with_reducible repeat (first | refine qah ?_ _ | refine qaj ?_ | refine qai ?_ _)); exact BK469.out⟩, ⟨by repeat (first | (with_reducible first | exact HB.out | apply qad | apply qaa | apply qac | refine qae ?_ GE469.out) | exact HB.out)⟩⟩
    case round =>
     clear H'
     obtain ⟨x5_2, x25_2, rfl, HA, HK2, HO_4, HO_5, HO_23, BK469, HB⟩ := hrel
     cases gk with
     | zero => exact absurd HA.out (by simp [spec_taTables.l1])
     | succ k2 =>
      have H := HA.out
      clear HA
      simp only [spec_taTables.l1] at H
      by_cases c14 : x25_2 < (t476.length : Int)
      ·rw [if_pos c14] at H
       have c14b0 : decide (x25_2 < (t476.length : Int)) = true := decide_eq_true c14
       clear c14
       by_cases c15 : 0 ≤ x25_2
       ·rw [if_pos c15] at H
        have c15b0 : decide (0 ≤ x25_2) = true := decide_eq_true c15
        clear c15
        by_cases c16 : x25_2 < (t476.length : Int)
        ·rw [if_pos c16] at H
         have c16b0 : decide (x25_2 < (t476.length : Int)) = true := decide_eq_true c16
         clear c16
         by_cases c17 : 0 < ((rd_L6 t476 x25_2).length : Int)
         ·rw [if_pos c17] at H
          have c17b0 : decide (0 < ((rd_L6 t476 x25_2).length : Int)) = true := decide_eq_true c17
          have c17b1 : decide (0 < (rd_L6 t476 x25_2).length) = true := decide_eq_true (by omega)
          clear c17
          by_cases c18 : 0 ≤ (rd (rd_L6 t476 x25_2) 0)
          ·rw [if_pos c18] at H
           have c18b0 : decide (0 ≤ (rd (rd_L6 t476 x25_2) 0)) = true := decide_eq_true c18
           clear c18
           by_cases c19 : (rd (rd_L6 t476 x25_2) 0) < (x5_2.length : Int)
           ·rw [if_pos c19] at H
            have c19b0 : decide ((rd (rd_L6 t476 x25_2) 0) < (x5_2.length : Int)) = true := decide_eq_true c19
            clear c19
            obtain ⟨y482, hy482⟩ : ∃ y_ : List Int, y_ = (x5_2.set ((rd (rd_L6 t476 x25_2) 0) : Int).toNat 0) := ⟨_, rfl⟩
            replace H : (spec_taTables.l2 k2 t470 y482 (([rd (rd_L6 t476 x25_2) 0] : List Int)) 0 t476 (t476.length : Int) x25_2 a0_0 l0_1) = some (r1, r2) := by first | (rw [hy482]; with_reducible exact H) | (have H2_ := (Option.bind_some _ _).symm.trans H; rw [hy482]; with_reducible exact H2_) | (have H2_ := (Option.bind_some _ _).symm.trans H; with_reducible exact H2_) | with_reducible exact H | (rw [hy482]; exact H) | exact H
            have Ny482 := Aside0.mk hy482
            clear hy482
            obtain ⟨y484, hy484⟩ : ∃ y_ : List Int, y_ = (([rd (rd_L6 t476 x25_2) 0] : List Int)) := ⟨_, rfl⟩
            replace H : (spec_taTables.l2 k2 t470 y482 y484 0 t476 (t476.length : Int) x25_2 a0_0 l0_1) = some (r1, r2) := by first | (rw [hy484]; with_reducible exact H) | (have H2_ := (Option.bind_some _ _).symm.trans H; rw [hy484]; with_reducible exact H2_) | (have H2_ := (Option.bind_some _ _).symm.trans H; with_reducible exact H2_) | with_reducible exact H | (rw [hy484]; exact H) | exact H
            have Ny484 := Aside0.mk hy484
            clear hy484
            have H' := Aside0.mk H
            clear H
            have p480 : 0 ≤ (x25_2 : Int) := oD_
            have q480 : x25_2 < (t476.length : Int) := oD_
            obtain ⟨ad480, A480_0, c480_0, e480, hx480_0, hl480_0, hi480_0⟩ := at_L6 (Kd.S_reads' HO_23.out).2.2 x25_2 p480 q480
            cases e480
            obtain ⟨ce480, hce480, hMe480, hcc480⟩ := Kd.S_get HO_23.out [] x25_2 p480 (by first | exact q480 | exact oD_ | (have e_ := (Kd.S_reads' HO_23.out).1; omega))
            obtain ⟨ve480_0, rfl, ge480_0⟩ := hMe480
            have hv480_0 := hcc480 0 _ rfl
            rw [Nat.add_zero, show ((Kd.slice 3 (Kd.int .i64))).sz = 1 from rfl, Nat.mul_one] at hv480_0
            replace hv480_0 := Option.some.inj (hv480_0.symm.trans hx480_0)
            rw [hv480_0] at ge480_0
            have HL480_0 := Aside0.mk (show Kd.R (Kd.int .i64) 3 _ _ _ _ (rd_L6 t476 x25_2) from ge480_0)
            clear hv480_0 ge480_0
            clear hcc480 hce480
            have HR480_0 := Aside0.mk hi480_0
            have HC480_0 := Aside0.mk hl480_0
            clear hi480_0 hl480_0
            replace p480 := eq_true p480
            replace q480 := eq_true q480
            have p481 : 0 ≤ (0 : Int) := (by omega)
            have q481 : 0 < ((rd_L6 t476 x25_2).length : Int) := oD_
            obtain ⟨ad481, e481, hx481_0⟩ := Kd.at_int (by repeat (first | (with_reducible exact HR480_0.out) | (with_reducible refine Kd.C_alloc ?_ _) | (with_reducible refine Kd.C_drewN ?_ _) | (with_reducible refine Kd.C_drew ?_) | exact HR480_0.out)) 0 p481 q481
            cases e481
            have qi481 : (0 < (rd_L6 t476 x25_2).length) = True := eq_true (by omega)
            (try rw [show ((0 : Int)).toNat = 0 from rfl] at hx481_0)
            (try rw [Addr.add_zero'] at hx481_0)
            replace p481 := eq_true p481
            replace q481 := eq_true q481
            have p20 : 0 ≤ ((rd (rd_L6 t476 x25_2) 0) : Int) := oD_
            have q20 : ((rd (rd_L6 t476 x25_2) 0) : Int) < ((x5_2.length : Int) : Int) := oD_
            obtain ⟨go20, co20, eo20, gb20, gl20, cl20, HG20⟩ := Kd.R_form HO_5.out (by omega)
            (first | cases eo20 | (injection eo20 with ea_ en_ ec_; (first | subst ea_ | (injection ea_ with ea_; subst ea_)); subst ec_; clear en_))
            have GB20 := Aside0.mk gb20
            have GG20 := Aside0.mk HG20
            clear gb20 gl20 HG20
            obtain ⟨hx20_0, hf20_0⟩ := Kd.R_celln 0 HO_5.out ((rd (rd_L6 t476 x25_2) 0) : Int) p20 q20
            replace p20 := eq_true p20
            replace q20 := eq_true q20
            have HP21 := Kd.R_putg HO_5.out ((rd (rd_L6 t476 x25_2) 0) : Int) 0
            go_wp2_with (first | ((with_reducible refine gate_store (t := 3) (p := 33) rfl ?_); refine store_event (t := 3) (p := 33) (v := ?vo_w22) (w1 := (wr.setCell ⟨go20, ((rd (rd_L6 t476 x25_2) 0) : Int).toNat, none⟩ (.int .i64 0))) ?hg ?ho ?hn ?hr ?_; (case ho => rfl); (case hg => rfl); (case hn => rfl); (case hr => first | (go_simp; done) | (go_simp; rfl)); intro w22 hw; have hg : wr.grownBy w22 (some go20) := (by rw [hw]; exact HP21.2); have hp_ : Kd.R (Kd.int .i64) 3 w22 w.heap.size (fun _ => True) (.slice (some ⟨go20, 0, none⟩) x5_2.length co20) y482 := (by rw [hw, Ny482.out]; exact HP21.1); clear HP21; have n0_ := Aside0.mk (Kd.S_over' (v := (.slice (some ⟨go20, 0, none⟩) x5_2.length co20)) (uS_ HO_4.out) (Kd.R_typed HO_5.out) (by decide) hg); have n1_ := Aside0.mk (hp_); have n2_ := Aside0.mk (Kd.S_after (v := (.slice (some ⟨go20, 0, none⟩) x5_2.length co20)) (v1 := (.slice (some ⟨go20, 0, none⟩) x5_2.length co20)) (ok := (fun _ => True)) (by (with_reducible repeat (first | apply Kd.S_alloc | apply Kd.S_drewN | apply Kd.S_drew)); exact Kd.S_mono HO_23.out (fun _ hk => ⟨trivial, hk⟩)) hg (.inl rfl)); have n3_ := Aside0.mk (blk_grown (g := gb469) (o := .cells #[.int .i64 a0_0, .slice A0_1 l0_1.length c0_1] 30 (0, 0)) (uB_ BK469.out) hg (Kd.R_ne HO_5.out BK469.out (by decide))); have n4_ := Aside0.mk (Kd.R_after (v := (.slice (some ⟨go20, 0, none⟩) x5_2.length co20)) (v1 := (.slice (some ⟨go20, 0, none⟩) x5_2.length co20)) (ok := (fun k_ => some k_ ≠ (.slice (some ad480) t476.length co13 : Value).ownBlock)) (by (with_reducible repeat (first | apply Kd.qat | apply Kd.qas | apply Kd.R_drew)); exact Kd.R_mono HL480_0.out (fun _ hk => ⟨hk.2, hk.1⟩)) hg (.inl rfl)); have n5_ := Aside0.mk ((by rw [hw]; exact qae (HB.out) GB20.out : Below w.heap.size w w22)); clear HO_4; clear HO_5; clear HO_23; clear BK469; clear HL480_0; clear HB; have HO_4 := n0_; have HO_5 := n1_; have HO_23 := n2_; have BK469 := n3_; have HL480_0 := n4_; have HB := n5_; clear n0_ n1_ n2_ n3_ n4_ n5_; clear hg hw hp_; have p483 : 0 ≤ (0 : Int) := (by omega); have q483 : 0 < ((rd_L6 t476 x25_2).length : Int) := oD_; obtain ⟨ad483, e483, hx483_0⟩ := Kd.at_int ((Kd.R_reads' HL480_0.out).2.2) 0 p483 q483; obtain rfl : ad481 = ad483 := (by injection e483); have qi483 : (0 < (rd_L6 t476 x25_2).length) = True := eq_true (by omega); (try rw [show ((0 : Int)).toNat = 0 from rfl] at hx483_0); (try rw [Addr.add_zero'] at hx483_0); replace p483 := eq_true p483; replace q483 := eq_true q483) | ((with_reducible refine gate_dst (N := 37) rfl ?_); refine Kd.R_lit (Kd.int .i64) _ 3 ?hg (N := 37) ?hd (xs := ([rd (rd_L6 t476 x25_2) 0] : List Int)) (inner := [.int .i64 (rd (rd_L6 t476 x25_2) 0)]) (ok := fun _ => True) (okp := fun _ => True) ?hr ?hp (fun _ hk => hk) trivial (Below.refl _ _) (Nat.le_refl _) (by simp) ?_; (case hd => rfl); (case hg => rfl); (case hr => first | (go_simp; done) | (go_simp; rfl)); (case hp => exact (Reps.one (show Kd.M (Kd.int .i64) _ _ _ (rd (rd_L6 t476 x25_2) 0) [.int .i64 (rd (rd_L6 t476 x25_2) 0)] from rfl) (Reps.none _ _))); intro v485 w23 ho24 hb hg_ hnew_; clear hg_ hnew_; (first | rw [← Ny484.out] at ho24 | (simp only [Int.reduceToNat] at ho24; rw [← Ny484.out] at ho24)); have n0_ := Aside0.mk (Kd.S_below (uS_ HO_4.out) hb); have n1_ := Aside0.mk (Kd.R_elder' (uR_ HO_5.out) (Kd.R_base ho24) hb); have n2_ := Aside0.mk (Kd.S_elder' (uS_ HO_23.out) (Kd.R_base ho24) hb); have n3_ := Aside0.mk (Kd.R_elder' (uR_ HL480_0.out) (Kd.R_base ho24) hb); have n4_ := Aside0.mk (Kd.R_lower (Kd.R_new' (Kd.R_new' ho24 (Kd.R_lt (uR_ HO_5.out))) (Kd.R_lt (uR_ HL480_0.out))) (qal (hB1_ GE469.out))); have n5_ := Aside0.mk (qap (g := gb469) (o := .cells #[.int .i64 a0_0, .slice A0_1 l0_1.length c0_1] 30 (0, 0)) (uB_ BK469.out) hb); have n6_ := Aside0.mk (qak (hB1_ GE469.out) hb); clear HO_4; clear HO_5; clear HO_23; clear HL480_0; clear BK469; clear HB; have HO_4 := n0_; have HO_5 := n1_; have HO_23 := n2_; have HL480_0 := n3_; have HO486 := n4_; have BK469 := n5_; have HB := n6_; clear n0_ n1_ n2_ n3_ n4_ n5_ n6_; clear hb ho24))
            go_loopg [8, 9] k2 (fun kq v8 v9 w' => ∃ (x5_3 : List Int) (x8_3 : List Int) (x9_3 : Int), v9 = .int .i64 x9_3 ∧ Aside0 (spec_taTables.l2 kq t470 x5_3 x8_3 x9_3 t476 (t476.length : Int) x25_2 a0_0 l0_1 = some (r1, r2)) ∧ Aside0 (kq ≤ k2) ∧ Aside0 (Kd.S (Kd.slice 4 Kd.bool) 57 w' w.heap.size (fun _ => True) (.slice Ao6 t470.length co6) t470) ∧ Aside0 (Kd.R (Kd.int .i64) 3 w' w.heap.size (fun k_ => some k_ ≠ (v8 : Value).ownBlock) (.slice (some ⟨go20, 0, none⟩) x5_2.length co20) x5_3) ∧ Aside0 (Kd.R (Kd.int .i64) 3 w' w.heap.size (fun k_ => some k_ ≠ ((.slice (some ⟨go20, 0, none⟩) x5_2.length co20) : Value).ownBlock) v8 x8_3) ∧ Aside0 (Kd.S (Kd.slice 3 (Kd.int .i64)) 36 w' w.heap.size (fun k_ => some k_ ≠ ((.slice (some ⟨go20, 0, none⟩) x5_2.length co20) : Value).ownBlock ∧ some k_ ≠ (v8 : Value).ownBlock) (.slice (some ad480) t476.length co13) t476) ∧ Aside0 (w'.heap[gb469]? = some (.cells #[.int .i64 a0_0, (.slice A0_1 l0_1.length c0_1)] 30 (0, 0))) ∧ Aside0 (Below w.heap.size w w'))
            case atStart => exact ⟨(y482), (y484), (0), rS_, H', ⟨Nat.le_refl _⟩, ⟨by (with_reducible repeat (first | apply Kd.S_alloc | apply Kd.S_drewN | apply Kd.S_drew)); exact HO_4.out⟩, ⟨by (with_reducible repeat (first | apply Kd.qat | apply Kd.qas | apply Kd.R_drew)); exact Kd.R_mono HO_5.out (fun _ hk => hk.2)⟩, ⟨by (with_reducible repeat (first | apply Kd.qat | apply Kd.qas | apply Kd.R_drew)); exact Kd.R_mono HO486.out (fun _ hk => hk.1.2)⟩, ⟨by (with_reducible repeat (first | apply Kd.S_alloc | apply Kd.S_drewN | apply Kd.S_drew)); exact Kd.S_mono HO_23.out (fun _ hk => ⟨hk.1.2, hk.2⟩)⟩, ⟨by (with_reducible repeat (first | refine qah ?_ _ | refine qaj ?_ | refine qai ?_ _)); exact BK469.out⟩, ⟨by repeat (first | (with_reducible first | exact HB.out | apply qad | apply qaa | apply qac | refine qae ?_ GE469.out) | exact HB.out)⟩⟩
            case round =>
             clear H'
             obtain ⟨x5_3, x8_3, x9_3, rfl, HA, HK3, HO_4, HO_5, HO_8, HO_23, BK469, HB⟩ := hrel
             have hl5_3 := (Kd.R_reads' HO_5.out).1
             rw [hl5_3] at HO_5
             (try simp only [hl5_3])
             (try simp only [hl5_3] at BK469)
             (try simp only [hl5_3] at HO_4)
             (try simp only [hl5_3] at HO_8)
             (try simp only [hl5_3] at HO_23)
             cases gk with
             | zero => exact absurd HA.out (by simp [spec_taTables.l2])
             | succ k3 =>
              have H := HA.out
              clear HA
              simp only [spec_taTables.l2] at H
              by_cases c25 : x9_3 < (x8_3.length : Int)
              ·rw [if_pos c25] at H
               have c25b0 : decide (x9_3 < (x8_3.length : Int)) = true := decide_eq_true c25
               (try (have c25b0_0 := c25b0; simp only [hl5_3] at c25b0_0))
               clear c25
               by_cases c26 : 0 ≤ x9_3
               ·rw [if_pos c26] at H
                have c26b0 : decide (0 ≤ x9_3) = true := decide_eq_true c26
                clear c26
                replace H := Option.bind_eq_some_iff.mp H
                obtain ⟨t488, A270, H⟩ := H
                replace H : (spec_taTables.l3 k3 t470 x5_3 x8_3 x9_3 t476 (t476.length : Int) x25_2 t488 (t488.length : Int) 0 a0_0 l0_1) = some (r1, r2) := H
                have A27 := Aside0.mk A270
                clear A270
                have H' := Aside0.mk H
                clear H
                obtain ⟨Ao28, co28, eo28⟩ := Kd.R_slice HO_8.out
                subst eo28
                have p487 : 0 ≤ (x9_3 : Int) := oD_
                have q487 : x9_3 < (x8_3.length : Int) := oD_
                obtain ⟨ad487, e487, hx487_0⟩ := Kd.at_int (Kd.R_reads' HO_8.out).2.2 x9_3 p487 q487
                cases e487
                replace p487 := eq_true p487
                replace q487 := eq_true q487
                go_wp2_with (first | ((with_reducible refine qao (f := 51) rfl ?_); refine goesL_ (some 49) rfl rfl Tryd.func51 (by kernel_rfl) rfl #[.slice Ao6 t470.length co6, .int .i64 (rd x8_3 x9_3)] rfl mT_ ?_; (with_reducible refine (spec_paFriends.calls k3 _ _ t470 (rd x8_3 x9_3) t488 _ ?side1 ?side2 A27.out).mono ?_); (case side1 => repeat (first | exact (Kd.S_reads' HO_4.out).2.2 | (with_reducible refine Kd.C_alloc ?_ _) | (with_reducible refine Kd.C_drewN ?_ _) | (with_reducible refine Kd.C_drew ?_))); (case side2 => exact (Kd.S_reads' HO_4.out).2.1); rintro e w29 ⟨v489, rfl, ho0, hb⟩; refine ⟨_, rfl, ?_⟩; have n0_ := Aside0.mk (Kd.S_below (uS_ HO_4.out) hb); have n1_ := Aside0.mk (Kd.R_elder' (uR_ HO_5.out) (Kd.R_base ho0) hb); have n2_ := Aside0.mk (Kd.R_elder' (uR_ HO_8.out) (Kd.R_base ho0) hb); have n3_ := Aside0.mk (Kd.S_elder' (uS_ HO_23.out) (Kd.R_base ho0) hb); have n4_ := Aside0.mk (Kd.R_lower (Kd.R_new' (Kd.R_new' ho0 (Kd.R_lt (uR_ HO_5.out))) (Kd.R_lt (uR_ HO_8.out))) (qal (hB1_ GE469.out))); have n5_ := Aside0.mk (qap (g := gb469) (o := .cells #[.int .i64 a0_0, .slice A0_1 l0_1.length c0_1] 30 (0, 0)) (uB_ BK469.out) hb); have n6_ := Aside0.mk (qak (hB1_ GE469.out) hb); clear HO_4; clear HO_5; clear HO_8; clear HO_23; clear BK469; clear HB; have HO_4 := n0_; have HO_5 := n1_; have HO_8 := n2_; have HO_23 := n3_; have HO490 := n4_; have BK469 := n5_; have HB := n6_; clear n0_ n1_ n2_ n3_ n4_ n5_ n6_; (try clear hb); (try clear hb2); (try clear hk); (try clear hi); (try clear ho0); obtain ⟨Ao30, co30, eo30⟩ := Kd.R_slice HO490.out; subst eo30))
                go_loopg [8, 51] k3 (fun kq v8 v51 w' => ∃ (x5_4 : List Int) (x8_4 : List Int) (x51_4 : Int), v51 = .int .i64 x51_4 ∧ Aside0 (spec_taTables.l3 kq t470 x5_4 x8_4 x9_3 t476 (t476.length : Int) x25_2 t488 (t488.length : Int) x51_4 a0_0 l0_1 = some (r1, r2)) ∧ Aside0 (kq ≤ k3) ∧ Aside0 (Kd.S (Kd.slice 4 Kd.bool) 57 w' w.heap.size (fun _ => True) (.slice Ao6 t470.length co6) t470) ∧ Aside0 (Kd.R (Kd.int .i64) 3 w' w.heap.size (fun k_ => some k_ ≠ (v8 : Value).ownBlock ∧ some k_ ≠ ((.slice Ao30 t488.length co30) : Value).ownBlock) (.slice (some ⟨go20, 0, none⟩) x5_3.length co20) x5_4) ∧ Aside0 (Kd.R (Kd.int .i64) 3 w' w.heap.size (fun k_ => some k_ ≠ ((.slice (some ⟨go20, 0, none⟩) x5_3.length co20) : Value).ownBlock ∧ some k_ ≠ ((.slice Ao30 t488.length co30) : Value).ownBlock) v8 x8_4) ∧ Aside0 (Kd.S (Kd.slice 3 (Kd.int .i64)) 36 w' w.heap.size (fun k_ => some k_ ≠ ((.slice (some ⟨go20, 0, none⟩) x5_3.length co20) : Value).ownBlock ∧ some k_ ≠ (v8 : Value).ownBlock ∧ some k_ ≠ ((.slice Ao30 t488.length co30) : Value).ownBlock) (.slice (some ad480) t476.length co13) t476) ∧ Aside0 (Kd.R (Kd.int .i64) 3 w' w.heap.size (fun k_ => some k_ ≠ ((.slice (some ⟨go20, 0, none⟩) x5_3.length co20) : Value).ownBlock ∧ some k_ ≠ (v8 : Value).ownBlock) (.slice Ao30 t488.length co30) t488) ∧ Aside0 (w'.heap[gb469]? = some (.cells #[.int .i64 a0_0, (.slice A0_1 l0_1.length c0_1)] 30 (0, 0))) ∧ Aside0 (Below w.heap.size w w'))
                case atStart => exact ⟨(x5_3), (x8_3), (0), rS_, H', ⟨Nat.le_refl _⟩, ⟨by (try simp only [hl5_3]); (with_reducible repeat (first | apply Kd.S_alloc | apply Kd.S_drewN | apply Kd.S_drew)); exact HO_4.out⟩, ⟨by (try simp only [hl5_3]); (with_reducible repeat (first | apply Kd.qat | apply Kd.qas | apply Kd.R_drew)); exact HO_5.out⟩, ⟨by (try simp only [hl5_3]); (with_reducible repeat (first | apply Kd.qat | apply Kd.qas | apply Kd.R_drew)); exact HO_8.out⟩, ⟨by (try simp only [hl5_3]); (with_reducible repeat (first | apply Kd.S_alloc | apply Kd.S_drewN | apply Kd.S_drew)); exact Kd.S_mono HO_23.out (fun _ hk => ⟨hk.1.1, ⟨hk.1.2, hk.2⟩⟩)⟩, ⟨by (try simp only [hl5_3]); (with_reducible repeat (first | apply Kd.qat | apply Kd.qas | apply Kd.R_drew)); exact Kd.R_mono HO490.out (fun _ hk => ⟨hk.1.2, hk.2⟩)⟩, ⟨by (try simp only [hl5_3]); (with_reducible repeat (first | refine qah ?_ _ | refine qaj ?_ | refine qai ?_ _)); exact BK469.out⟩, ⟨by repeat (first | (with_reducible first | exact HB.out | apply qad | apply qaa | apply qac | refine qae ?_ GE469.out) | exact HB.out)⟩⟩
                case round =>
                 clear H'
                 obtain ⟨x5_4, x8_4, x51_4, rfl, HA, HK4, HO_4, HO_5, HO_8, HO_23, HO_49, BK469, HB⟩ := hrel
                 have hl5_4 := (Kd.R_reads' HO_5.out).1
                 rw [hl5_4] at HO_5
                 (try simp only [hl5_4])
                 (try simp only [hl5_4] at BK469)
                 (try simp only [hl5_4] at HO_4)
                 (try simp only [hl5_4] at HO_8)
                 (try simp only [hl5_4] at HO_23)
                 (try simp only [hl5_4] at HO_49)
                 cases gk with
                 | zero => exact absurd HA.out (by simp [spec_taTables.l3])
                 | succ k4 =>
                  have H := HA.out
                  clear HA
                  simp only [spec_taTables.l3] at H
                  by_cases c31 : x51_4 < (t488.length : Int)
                  ·rw [if_pos c31] at H
                   have c31b0 : decide (x51_4 < (t488.length : Int)) = true := decide_eq_true c31
                   (try (have c31b0_0 := c31b0; simp only [hl5_3] at c31b0_0)); (try (have c31b0_1 := c31b0; simp only [hl5_4] at c31b0_1))
                   clear c31
                   by_cases c32 : 0 ≤ x51_4
                   ·rw [if_pos c32] at H
                    have c32b0 : decide (0 ≤ x51_4) = true := decide_eq_true c32
                    clear c32
                    by_cases c33 : x51_4 < (t488.length : Int)
                    ·rw [if_pos c33] at H
                     have c33b0 : decide (x51_4 < (t488.length : Int)) = true := decide_eq_true c33
                     (try (have c33b0_0 := c33b0; simp only [hl5_3] at c33b0_0)); (try (have c33b0_1 := c33b0; simp only [hl5_4] at c33b0_1))
                     clear c33
                     by_cases c34 : 0 ≤ (rd t488 x51_4)
                     ·rw [if_pos c34] at H
                      have c34b0 : decide (0 ≤ (rd t488 x51_4)) = true := decide_eq_true c34
                      clear c34
                      by_cases c35 : (rd t488 x51_4) < (x5_4.length : Int)
                      ·rw [if_pos c35] at H
                       have c35b0 : decide ((rd t488 x51_4) < (x5_4.length : Int)) = true := decide_eq_true c35
                       (try (have c35b0_0 := c35b0; simp only [hl5_3] at c35b0_0)); (try (have c35b0_1 := c35b0; simp only [hl5_4] at c35b0_1))
                       clear c35
                       by_cases c36 : (rd x5_4 (rd t488 x51_4)) < 0
                       ·rw [if_pos c36] at H
                        have c36b0 : decide ((rd x5_4 (rd t488 x51_4)) < 0) = true := decide_eq_true c36
                        clear c36
                        by_cases c37 : 0 ≤ x9_3
                        ·rw [if_pos c37] at H
                         have c37b0 : decide (0 ≤ x9_3) = true := decide_eq_true c37
                         clear c37
                         by_cases c38 : x9_3 < (x8_4.length : Int)
                         ·rw [if_pos c38] at H
                          have c38b0 : decide (x9_3 < (x8_4.length : Int)) = true := decide_eq_true c38
                          (try (have c38b0_0 := c38b0; simp only [hl5_3] at c38b0_0)); (try (have c38b0_1 := c38b0; simp only [hl5_4] at c38b0_1))
                          clear c38
                          by_cases c39 : 0 ≤ (rd x8_4 x9_3)
                          ·rw [if_pos c39] at H
                           have c39b0 : decide (0 ≤ (rd x8_4 x9_3)) = true := decide_eq_true c39
                           clear c39
                           by_cases c40 : (rd x8_4 x9_3) < (x5_4.length : Int)
                           ·rw [if_pos c40] at H
                            have c40b0 : decide ((rd x8_4 x9_3) < (x5_4.length : Int)) = true := decide_eq_true c40
                            (try (have c40b0_0 := c40b0; simp only [hl5_3] at c40b0_0)); (try (have c40b0_1 := c40b0; simp only [hl5_4] at c40b0_1))
                            clear c40
                            obtain ⟨y495, hy495⟩ : ∃ y_ : List Int, y_ = (x5_4.set ((rd t488 x51_4) : Int).toNat (wrap64 (1 - (rd x5_4 (rd x8_4 x9_3))))) := ⟨_, rfl⟩
                            replace H : (if x8_4.length < 17592186044416 then (spec_taTables.l3 k4 t470 y495 (x8_4 ++ [rd t488 x51_4]) x9_3 t476 (t476.length : Int) x25_2 t488 (t488.length : Int) (wrap64 (x51_4 + 1)) a0_0 l0_1) else (none)) = some (r1, r2) := by first | (rw [hy495]; with_reducible exact H) | (have H2_ := (Option.bind_some _ _).symm.trans H; rw [hy495]; with_reducible exact H2_) | (have H2_ := (Option.bind_some _ _).symm.trans H; with_reducible exact H2_) | with_reducible exact H | (rw [hy495]; exact H) | exact H
                            have Ny495 := Aside0.mk hy495
                            clear hy495
                            by_cases c42 : x8_4.length < 17592186044416
                            ·rw [if_pos c42] at H
                             have LMc42 := Aside0.mk c42
                             clear c42
                             obtain ⟨y496, hy496⟩ : ∃ y_ : List Int, y_ = (x8_4 ++ [rd t488 x51_4]) := ⟨_, rfl⟩
                             replace H : (spec_taTables.l3 k4 t470 y495 y496 x9_3 t476 (t476.length : Int) x25_2 t488 (t488.length : Int) (wrap64 (x51_4 + 1)) a0_0 l0_1) = some (r1, r2) := by first | (rw [hy496]; with_reducible exact H) | (have H2_ := (Option.bind_some _ _).symm.trans H; rw [hy496]; with_reducible exact H2_) | (have H2_ := (Option.bind_some _ _).symm.trans H; with_reducible exact H2_) | with_reducible exact H | (rw [hy496]; exact H) | exact H
                             have Ny496 := Aside0.mk hy496
                             clear hy496
                             have H' := Aside0.mk H
                             clear H
                             have p491 : 0 ≤ (x51_4 : Int) := oD_
                             have q491 : x51_4 < (t488.length : Int) := oD_
                             obtain ⟨ad491, e491, hx491_0⟩ := Kd.at_int (Kd.R_reads' HO_49.out).2.2 x51_4 p491 q491
                             cases e491
                             replace p491 := eq_true p491
                             replace q491 := eq_true q491
                             have p492 : 0 ≤ ((rd t488 x51_4) : Int) := oD_
                             have q492 : (rd t488 x51_4) < (x5_4.length : Int) := oD_
                             obtain ⟨ad492, e492, hx492_0⟩ := Kd.at_int (Kd.R_reads' HO_5.out).2.2 (rd t488 x51_4) p492 q492
                             obtain rfl : (⟨go20, 0, none⟩ : Addr) = ad492 := (by injection e492)
                             (first | simp only [add_plain] at hx492_0 | simp only [add_at] at hx492_0 | simp only [Addr.add, Nat.zero_add] at hx492_0 | skip)
                             replace p492 := eq_true p492
                             replace q492 := eq_true q492
                             obtain ⟨Ao43, co43, eo43⟩ := Kd.R_slice HO_8.out
                             subst eo43
                             have p493 : 0 ≤ (x9_3 : Int) := oD_
                             have q493 : x9_3 < (x8_4.length : Int) := oD_
                             obtain ⟨ad493, e493, hx493_0⟩ := Kd.at_int (Kd.R_reads' HO_8.out).2.2 x9_3 p493 q493
                             cases e493
                             replace p493 := eq_true p493
                             replace q493 := eq_true q493
                             have p494 : 0 ≤ ((rd x8_4 x9_3) : Int) := oD_
                             have q494 : (rd x8_4 x9_3) < (x5_4.length : Int) := oD_
                             obtain ⟨ad494, e494, hx494_0⟩ := Kd.at_int (Kd.R_reads' HO_5.out).2.2 (rd x8_4 x9_3) p494 q494
                             obtain rfl : (⟨go20, 0, none⟩ : Addr) = ad494 := (by injection e494)
                             (first | simp only [add_plain] at hx494_0 | simp only [add_at] at hx494_0 | simp only [Addr.add, Nat.zero_add] at hx494_0 | skip)
                             replace p494 := eq_true p494
                             replace q494 := eq_true q494
                             have p41 : 0 ≤ ((rd t488 x51_4) : Int) := oD_
                             have q41 : ((rd t488 x51_4) : Int) < ((x5_4.length : Int) : Int) := oD_
                             obtain ⟨hx41_0, hf41_0⟩ := Kd.R_celln 0 HO_5.out ((rd t488 x51_4) : Int) p41 q41
                             replace p41 := eq_true p41
                             replace q41 := eq_true q41
                             have HP44 := Kd.R_putg HO_5.out ((rd t488 x51_4) : Int) (wrap64 (1 - (rd x5_4 (rd x8_4 x9_3))))
                             go_wp2_with (first | ((with_reducible refine gate_store (t := 3) (p := 70) rfl ?_); refine store_event (t := 3) (p := 70) (v := ?vo_w45) (w1 := (wr.setCell ⟨go20, ((rd t488 x51_4) : Int).toNat, none⟩ (.int .i64 (wrap64 (1 - (rd x5_4 (rd x8_4 x9_3))))))) ?hg ?ho ?hn ?hr ?_; (case ho => rfl); (case hg => rfl); (case hn => rfl); (case hr => first | (go_simp; done) | (go_simp; rfl)); intro w45 hw; have hg : wr.grownBy w45 (some go20) := (by rw [hw]; exact HP44.2); have hp_ : Kd.R (Kd.int .i64) 3 w45 w.heap.size (fun k_ => some k_ ≠ (.slice (some ad493) x8_4.length co43 : Value).ownBlock ∧ some k_ ≠ (.slice (some ad491) t488.length co30 : Value).ownBlock) (.slice (some ⟨go20, 0, none⟩) x5_4.length co20) y495 := (by rw [hw, Ny495.out]; exact HP44.1); clear HP44; have n0_ := Aside0.mk (Kd.S_over' (v := (.slice (some ⟨go20, 0, none⟩) x5_4.length co20)) (uS_ HO_4.out) (Kd.R_typed HO_5.out) (by decide) hg); have n1_ := Aside0.mk (hp_); have n2_ := Aside0.mk (Kd.R_after (v := (.slice (some ⟨go20, 0, none⟩) x5_4.length co20)) (v1 := (.slice (some ⟨go20, 0, none⟩) x5_4.length co20)) (ok := (fun k_ => some k_ ≠ (.slice (some ad491) t488.length co30 : Value).ownBlock)) (by (with_reducible repeat (first | apply Kd.qat | apply Kd.qas | apply Kd.R_drew)); exact Kd.R_mono HO_8.out (fun _ hk => ⟨hk.2, hk.1⟩)) hg (.inl rfl)); have n3_ := Aside0.mk (Kd.S_after (v := (.slice (some ⟨go20, 0, none⟩) x5_4.length co20)) (v1 := (.slice (some ⟨go20, 0, none⟩) x5_4.length co20)) (ok := (fun k_ => some k_ ≠ (.slice (some ad493) x8_4.length co43 : Value).ownBlock ∧ some k_ ≠ (.slice (some ad491) t488.length co30 : Value).ownBlock)) (by (with_reducible repeat (first | apply Kd.S_alloc | apply Kd.S_drewN | apply Kd.S_drew)); exact Kd.S_mono HO_23.out (fun _ hk => ⟨⟨hk.2.1, hk.2.2⟩, hk.1⟩)) hg (.inl rfl)); have n4_ := Aside0.mk (Kd.R_after (v := (.slice (some ⟨go20, 0, none⟩) x5_4.length co20)) (v1 := (.slice (some ⟨go20, 0, none⟩) x5_4.length co20)) (ok := (fun k_ => some k_ ≠ (.slice (some ad493) x8_4.length co43 : Value).ownBlock)) (by (with_reducible repeat (first | apply Kd.qat | apply Kd.qas | apply Kd.R_drew)); exact Kd.R_mono HO_49.out (fun _ hk => ⟨hk.2, hk.1⟩)) hg (.inl rfl)); have n5_ := Aside0.mk (blk_grown (g := gb469) (o := .cells #[.int .i64 a0_0, .slice A0_1 l0_1.length c0_1] 30 (0, 0)) (uB_ BK469.out) hg (Kd.R_ne HO_5.out BK469.out (by decide))); have n6_ := Aside0.mk ((by rw [hw]; exact qae (HB.out) GB20.out : Below w.heap.size w w45)); clear HO_4; clear HO_5; clear HO_8; clear HO_23; clear HO_49; clear BK469; clear HB; have HO_4 := n0_; have HO_5 := n1_; have HO_8 := n2_; have HO_23 := n3_; have HO_49 := n4_; have BK469 := n5_; have HB := n6_; clear n0_ n1_ n2_ n3_ n4_ n5_ n6_; clear hg hw hp_) | ((with_reducible refine gate_builtin (b := .append) (xs := #[.tmp 71, .tmp 73]) rfl ?_); at_builtin; refine Kd.R_append (Kd.int .i64) (w0 := w) w.heap.size rfl (.tmp 71) (.tmp 73) 36 3 (.int .i64 0) 8 rfl Tryd.underlying36 info3 rfl (by decide) (by omega) (.slice (some ad493) x8_4.length co43) x8_4 (rd t488 x51_4) [.int .i64 (rd t488 x51_4)] (fun k_ => some k_ ≠ (.slice (some ⟨go20, 0, none⟩) x5_4.length co20 : Value).ownBlock ∧ some k_ ≠ (.slice (some ad491) t488.length co30 : Value).ownBlock) (fun _ => False) rfl rfl ?aP (fun _ hk => hk.elim) ?aF ?aO ?aB ?aS ?aL ?_; (case aP => exact rfl); (case aB => exact (hB1_ GE469.out)); (case aF => exact (fun k_ hk => ⟨Kd.fresh' (Kd.R_lt (uR_ HO_5.out)) k_ hk, Kd.fresh' (Kd.R_lt (uR_ HO_49.out)) k_ hk⟩)); (case aO => exact (by (with_reducible repeat (first | apply Kd.qat | apply Kd.qas | apply Kd.R_drew)); exact Kd.R_mono HO_8.out (fun _ hk => ⟨hk.2, hk.1⟩))); (case aS => exact (qal (hB1_ GE469.out))); (case aL => have := LMc42.out; omega); intro v497 w46 ho hb hg hat; rw [← Ny496.out] at ho; have n0_ := Aside0.mk (Kd.S_over' (uS_ HO_4.out) (Kd.R_typed (uR_ HO_8.out)) (by decide) hg); have n1_ := Aside0.mk (Kd.R_after (ok := (fun k_ => some k_ ≠ (.slice (some ad491) t488.length co30 : Value).ownBlock)) (by (with_reducible repeat (first | apply Kd.qat | apply Kd.qas | apply Kd.R_drew)); exact Kd.R_mono HO_5.out (fun _ hk => ⟨hk.2, hk.1⟩)) hg hat); have n2_ := Aside0.mk (Kd.S_after (ok := (fun k_ => some k_ ≠ (.slice (some ⟨go20, 0, none⟩) x5_4.length co20 : Value).ownBlock ∧ some k_ ≠ (.slice (some ad491) t488.length co30 : Value).ownBlock)) (by (with_reducible repeat (first | apply Kd.S_alloc | apply Kd.S_drewN | apply Kd.S_drew)); exact Kd.S_mono HO_23.out (fun _ hk => ⟨⟨hk.2, hk.1.2⟩, hk.1.1⟩)) hg hat); have n3_ := Aside0.mk (Kd.R_after (ok := (fun k_ => some k_ ≠ (.slice (some ⟨go20, 0, none⟩) x5_4.length co20 : Value).ownBlock)) (by (with_reducible repeat (first | apply Kd.qat | apply Kd.qas | apply Kd.R_drew)); exact Kd.R_mono HO_49.out (fun _ hk => ⟨hk.2, hk.1⟩)) hg hat); have n4_ := Aside0.mk (blk_grown (g := gb469) (o := .cells #[.int .i64 a0_0, .slice A0_1 l0_1.length c0_1] 30 (0, 0)) (uB_ BK469.out) hg (Kd.R_ne HO_8.out BK469.out (by decide))); have n5_ := Aside0.mk (hb); have n6_ := Aside0.mk (ho); clear HO_4; clear HO_5; clear HO_23; clear HO_49; clear BK469; clear HB; clear HO_8; have HO_4 := n0_; have HO_5 := n1_; have HO_23 := n2_; have HO_49 := n3_; have BK469 := n4_; have HB := n5_; have HO498 := n6_; clear n0_ n1_ n2_ n3_ n4_ n5_ n6_; clear ho hb hg hat))
                             (try simp only [← hl5_4])
                             go_roundg k4
                             case measure => have := HK1.out; have := HK2.out; have := HK3.out; have := HK4.out; omega
                             case rel => exact ⟨(y495), (y496), (wrap64 (x51_4 + 1)), rS_, H', ⟨by have := HK1.out; have := HK2.out; have := HK3.out; have := HK4.out; omega⟩, ⟨by (try simp only [hl5_3]); (try simp only [hl5_4]); (with_reducible repeat (first | apply Kd.S_alloc | apply Kd.S_drewN | apply Kd.S_drew)); exact HO_4.out⟩, ⟨by (try simp only [hl5_3]); (try simp only [hl5_4]); (with_reducible repeat (first | apply Kd.qat | apply Kd.qas | apply Kd.R_drew)); exact Kd.R_mono HO_5.out (fun _ hk => ⟨hk.2, hk.1⟩)⟩, ⟨by (try simp only [hl5_3]); (try simp only [hl5_4]); (with_reducible repeat (first | apply Kd.qat | apply Kd.qas | apply Kd.R_drew)); exact HO498.out⟩, ⟨by (try simp only [hl5_3]); (try simp only [hl5_4]); (with_reducible repeat (first | apply Kd.S_alloc | apply Kd.S_drewN | apply Kd.S_drew)); exact Kd.S_mono HO_23.out (fun _ hk => ⟨hk.1.1, ⟨hk.2, hk.1.2⟩⟩)⟩, ⟨by (try simp only [hl5_3]); (try simp only [hl5_4]); (with_reducible repeat (first | apply Kd.qat | apply Kd.qas | apply Kd.R_drew)); exact HO_49.out⟩, ⟨by (try simp only [hl5_3]); (try simp only [hl5_4]); (with_reducible repeat (first | refine qah ?_ _ | refine qaj ?_ | refine qai ?_ _)); exact BK469.out⟩, ⟨by repeat (first | (with_reducible first | exact HB.out | apply qad | apply qaa | apply qac | refine qae ?_ GE469.out) | exact HB.out)⟩⟩
                            ·rw [if_neg c42] at H
                             exact absurd H (by simp)
                           ·rw [if_neg c40] at H
                            exact absurd H (by simp)
                          ·rw [if_neg c39] at H
                           exact absurd H (by simp)
                         ·rw [if_neg c38] at H
                          exact absurd H (by simp)
                        ·rw [if_neg c37] at H
                         exact absurd H (by simp)
                       ·rw [if_neg c36] at H
                        have c36b0 : decide ((rd x5_4 (rd t488 x51_4)) < 0) = false := decide_eq_false c36
                        clear c36
                        have H' := Aside0.mk H
                        clear H
                        have p491 : 0 ≤ (x51_4 : Int) := oD_
                        have q491 : x51_4 < (t488.length : Int) := oD_
                        obtain ⟨ad491, e491, hx491_0⟩ := Kd.at_int (Kd.R_reads' HO_49.out).2.2 x51_4 p491 q491
                        cases e491
                        replace p491 := eq_true p491
                        replace q491 := eq_true q491
                        have p492 : 0 ≤ ((rd t488 x51_4) : Int) := oD_
                        have q492 : (rd t488 x51_4) < (x5_4.length : Int) := oD_
                        obtain ⟨ad492, e492, hx492_0⟩ := Kd.at_int (Kd.R_reads' HO_5.out).2.2 (rd t488 x51_4) p492 q492
                        obtain rfl : (⟨go20, 0, none⟩ : Addr) = ad492 := (by injection e492)
                        (first | simp only [add_plain] at hx492_0 | simp only [add_at] at hx492_0 | simp only [Addr.add, Nat.zero_add] at hx492_0 | skip)
                        replace p492 := eq_true p492
                        replace q492 := eq_true q492
                        go_wp2
                        (try simp only [← hl5_4])
                        go_roundg k4
                        case measure => have := HK1.out; have := HK2.out; have := HK3.out; have := HK4.out; omega
                        case rel => exact ⟨(x5_4), (x8_4), (wrap64 (x51_4 + 1)), rS_, H', ⟨by have := HK1.out; have := HK2.out; have := HK3.out; have := HK4.out; omega⟩, ⟨by (try simp only [hl5_3]); (try simp only [hl5_4]); (with_reducible repeat (first | apply Kd.S_alloc | apply Kd.S_drewN | apply Kd.S_drew)); exact HO_4.out⟩, ⟨by (try simp only [hl5_3]); (try simp only [hl5_4]); (with_reducible repeat (first | apply Kd.qat | apply Kd.qas | apply Kd.R_drew)); exact HO_5.out⟩, ⟨by (try simp only [hl5_3]); (try simp only [hl5_4]); (with_reducible repeat (first | apply Kd.qat | apply Kd.qas | apply Kd.R_drew)); exact HO_8.out⟩, ⟨by (try simp only [hl5_3]); (try simp only [hl5_4]); (with_reducible repeat (first | apply Kd.S_alloc | apply Kd.S_drewN | apply Kd.S_drew)); exact HO_23.out⟩, ⟨by (try simp only [hl5_3]); (try simp only [hl5_4]); (with_reducible repeat (first | apply Kd.qat | apply Kd.qas | apply Kd.R_drew)); exact HO_49.out⟩, ⟨by (try simp only [hl5_3]); (try simp only [hl5_4]); (with_reducible repeat (first | refine qah ?_ _ | refine qaj ?_ | refine qai ?_ _)); exact BK469.out⟩, ⟨by repeat (first | (with_reducible first | exact HB.out | apply qad | apply qaa | apply qac | refine qae ?_ GE469.out) | exact HB.out)⟩⟩
                      ·rw [if_neg c35] at H
                       exact absurd H (by simp)
                     ·rw [if_neg c34] at H
                      exact absurd H (by simp)
                    ·rw [if_neg c33] at H
                     exact absurd H (by simp)
                   ·rw [if_neg c32] at H
                    exact absurd H (by simp)
                  ·rw [if_neg c31] at H
                   have c31b0 : decide (x51_4 < (t488.length : Int)) = false := decide_eq_false c31
                   (try (have c31b0_0 := c31b0; simp only [hl5_3] at c31b0_0)); (try (have c31b0_1 := c31b0; simp only [hl5_4] at c31b0_1))
                   clear c31
                   have H' := Aside0.mk H
                   clear H
                   go_wp2
                   (try simp only [← hl5_3, ← hl5_4])
                   go_roundg k4
                   case measure => have := HK1.out; have := HK2.out; have := HK3.out; have := HK4.out; omega
                   case rel => exact ⟨(x5_4), (x8_4), (wrap64 (x9_3 + 1)), rS_, H', ⟨by have := HK1.out; have := HK2.out; have := HK3.out; have := HK4.out; omega⟩, ⟨by (try simp only [hl5_3]); (try simp only [hl5_4]); (with_reducible repeat (first | apply Kd.S_alloc | apply Kd.S_drewN | apply Kd.S_drew)); exact HO_4.out⟩, ⟨by (try simp only [hl5_3]); (try simp only [hl5_4]); (with_reducible repeat (first | apply Kd.qat | apply Kd.qas | apply Kd.R_drew)); exact Kd.R_mono HO_5.out (fun _ hk => hk.1)⟩, ⟨by (try simp only [hl5_3]); (try simp only [hl5_4]); (with_reducible repeat (first | apply Kd.qat | apply Kd.qas | apply Kd.R_drew)); exact Kd.R_mono HO_8.out (fun _ hk => hk.1)⟩, ⟨by (try simp only [hl5_3]); (try simp only [hl5_4]); (with_reducible repeat (first | apply Kd.S_alloc | apply Kd.S_drewN | apply Kd.S_drew)); exact Kd.S_mono HO_23.out (fun _ hk => ⟨hk.1, hk.2.1⟩)⟩, ⟨by (try simp only [hl5_3]); (try simp only [hl5_4]); (with_reducible repeat (first | refine qah ?_ _ | refine qaj ?_ | refine qai ?_ _)); exact BK469.out⟩, ⟨by repeat (first | (with_reducible first | exact HB.out | apply qad | apply qaa | apply qac | refine qae ?_ GE469.out) | exact HB.out)⟩⟩
               ·rw [if_neg c26] at H
                exact absurd H (by simp)
              ·rw [if_neg c25] at H
               have c25b0 : decide (x9_3 < (x8_3.length : Int)) = false := decide_eq_false c25
               (try (have c25b0_0 := c25b0; simp only [hl5_3] at c25b0_0))
               clear c25
               have H' := Aside0.mk H
               clear H
               obtain ⟨Ao47, co47, eo47⟩ := Kd.R_slice HO_8.out
               subst eo47
               go_wp2
               (try simp only [← hl5_3])
               go_roundg k3
               case measure => have := HK1.out; have := HK2.out; have := HK3.out; omega
               case rel => exact ⟨(x5_3), (wrap64 (x25_2 + 1)), rS_, H', ⟨by have := HK1.out; have := HK2.out; have := HK3.out; omega⟩, ⟨by (try simp only [hl5_3]); (with_reducible repeat (first | apply Kd.S_alloc | apply Kd.S_drewN | apply Kd.S_drew)); exact HO_4.out⟩, ⟨by (try simp only [hl5_3]); (with_reducible repeat (first | apply Kd.qat | apply Kd.qas | apply Kd.R_drew)); exact Kd.R_mono HO_5.out (fun _ hk => trivial)⟩, ⟨by (try simp only [hl5_3]); (with_reducible repeat (first | apply Kd.S_alloc | apply Kd.S_drewN | apply Kd.S_drew)); exact Kd.S_mono HO_23.out (fun _ hk => hk.1)⟩, ⟨by (try simp only [hl5_3]); (with_reducible repeat (first | refine qah ?_ _ | refine qaj ?_ | refine qai ?_ _)); exact BK469.out⟩, ⟨by repeat (first | (with_reducible first | exact HB.out | apply qad | apply qaa | apply qac | refine qae ?_ GE469.out) | exact HB.out)⟩⟩
           ·rw [if_neg c19] at H
            exact absurd H (by simp)
          ·rw [if_neg c18] at H
           exact absurd H (by simp)
         ·rw [if_neg c17] at H
          exact absurd H (by simp)
        ·rw [if_neg c16] at H
         exact absurd H (by simp)
       ·rw [if_neg c15] at H
        exact absurd H (by simp)
      ·rw [if_neg c14] at H
       have c14b0 : decide (x25_2 < (t476.length : Int)) = false := decide_eq_false c14
       clear c14
       replace H := Option.bind_eq_some_iff.mp H
       obtain ⟨t479, A480, H⟩ := H
       replace H : (if t479 = true then (some (x5_2, true)) else (some (([] : List Int), false))) = some (r1, r2) := H
       have A48 := Aside0.mk A480
       clear A480
       by_cases c49 : t479 = true
       ·subst c49
        have H1 : (some (x5_2, true)) = some (r1, r2) := by rw [if_pos rfl] at H; exact H
        clear H
        have H := H1
        clear H1
        simp only [Option.some.injEq, Prod.mk.injEq] at H
        obtain ⟨rfl, rfl⟩ := H
        have hcz50_0 : wr.cell? ⟨gb469, 0, none⟩ = some (.int .i64 a0_0) := (qab BK469.out 0).trans rfl
        have hcz50_1 : wr.cell? ⟨gb469, 1, none⟩ = some (.slice A0_1 l0_1.length c0_1) := (qab BK469.out 1).trans rfl
        have hfz50_0 := qaf BK469.out 0
        have hfz50_1 := qaf BK469.out 1
        obtain ⟨Ao51, co51, eo51⟩ := Kd.R_slice HO_5.out
        subst eo51
        go_wp2_with (first | ((with_reducible refine qao (f := 61) rfl ?_); refine goesL_ (some 79) rfl rfl Tryd.func61 (by kernel_rfl) rfl #[.agg #[.int .i64 a0_0, .slice A0_1 l0_1.length c0_1], .slice Ao51 x5_2.length co51] rfl mT_ ?_; (with_reducible refine (spec_grDiffer.calls k2 a0_0 _ _ l0_1 _ _ x5_2 true _ ?side1 ?side2 ?side3 ?side4 A48.out).mono ?_); (case side1 => repeat (first | exact (Kd.C_below HR0_1.out HB.out) | (with_reducible refine Kd.C_alloc ?_ _) | (with_reducible refine Kd.C_drewN ?_ _) | (with_reducible refine Kd.C_drew ?_))); (case side2 => exact HC0_1.out); (case side3 => repeat (first | exact (Kd.R_reads' HO_5.out).2.2 | (with_reducible refine Kd.C_alloc ?_ _) | (with_reducible refine Kd.C_drewN ?_ _) | (with_reducible refine Kd.C_drew ?_))); (case side4 => exact (Kd.R_reads' HO_5.out).2.1); rintro e w52 ⟨rfl, hb⟩; refine ⟨_, rfl, ?_⟩; have n0_ := Aside0.mk (Kd.S_below (uS_ HO_4.out) hb); have n1_ := Aside0.mk (Kd.R_below (uR_ HO_5.out) hb); have n2_ := Aside0.mk (Kd.S_below (uS_ HO_23.out) hb); have n3_ := Aside0.mk (qap (g := gb469) (o := .cells #[.int .i64 a0_0, .slice A0_1 l0_1.length c0_1] 30 (0, 0)) (uB_ BK469.out) hb); have n4_ := Aside0.mk (qak (hB1_ GE469.out) hb); clear HO_4; clear HO_5; clear HO_23; clear BK469; clear HB; have HO_4 := n0_; have HO_5 := n1_; have HO_23 := n2_; have BK469 := n3_; have HB := n4_; clear n0_ n1_ n2_ n3_ n4_; (try clear hb); (try clear hb2); (try clear hk); (try clear hi)))
        go_ret2
        exact ⟨_, by first | rfl | (simp [errW_none, errW_some] <;> rfl) | (simp [*, errW_none, errW_some] <;> rfl), by (with_reducible repeat (first | apply Kd.qat | apply Kd.qas | apply Kd.R_drew)); exact HO_5.out, by repeat (first | (with_reducible first | exact HB.out | apply qad | apply qaa | apply qac | refine qae ?_ GE469.out) | exact HB.out)⟩
       ·replace c49 := Bool.eq_false_iff.mpr c49
        subst c49
        have H1 : (some (([] : List Int), false)) = some (r1, r2) := by rw [if_neg (show ¬ (false = true) by decide)] at H; exact H
        clear H
        have H := H1
        clear H1
        simp only [Option.some.injEq, Prod.mk.injEq] at H
        obtain ⟨rfl, rfl⟩ := H
        have hcz53_0 : wr.cell? ⟨gb469, 0, none⟩ = some (.int .i64 a0_0) := (qab BK469.out 0).trans rfl
        have hcz53_1 : wr.cell? ⟨gb469, 1, none⟩ = some (.slice A0_1 l0_1.length c0_1) := (qab BK469.out 1).trans rfl
        have hfz53_0 := qaf BK469.out 0
        have hfz53_1 := qaf BK469.out 1
        obtain ⟨Ao54, co54, eo54⟩ := Kd.R_slice HO_5.out
        subst eo54
        go_wp2_with (first | ((with_reducible refine qao (f := 61) rfl ?_); refine goesL_ (some 79) rfl rfl Tryd.func61 (by kernel_rfl) rfl #[.agg #[.int .i64 a0_0, .slice A0_1 l0_1.length c0_1], .slice Ao54 x5_2.length co54] rfl mT_ ?_; (with_reducible refine (spec_grDiffer.calls k2 a0_0 _ _ l0_1 _ _ x5_2 false _ ?side1 ?side2 ?side3 ?side4 A48.out).mono ?_); (case side1 => repeat (first | exact (Kd.C_below HR0_1.out HB.out) | (with_reducible refine Kd.C_alloc ?_ _) | (with_reducible refine Kd.C_drewN ?_ _) | (with_reducible refine Kd.C_drew ?_))); (case side2 => exact HC0_1.out); (case side3 => repeat (first | exact (Kd.R_reads' HO_5.out).2.2 | (with_reducible refine Kd.C_alloc ?_ _) | (with_reducible refine Kd.C_drewN ?_ _) | (with_reducible refine Kd.C_drew ?_))); (case side4 => exact (Kd.R_reads' HO_5.out).2.1); rintro e w55 ⟨rfl, hb⟩; refine ⟨_, rfl, ?_⟩; have n0_ := Aside0.mk (Kd.S_below (uS_ HO_4.out) hb); have n1_ := Aside0.mk (Kd.R_below (uR_ HO_5.out) hb); have n2_ := Aside0.mk (Kd.S_below (uS_ HO_23.out) hb); have n3_ := Aside0.mk (qap (g := gb469) (o := .cells #[.int .i64 a0_0, .slice A0_1 l0_1.length c0_1] 30 (0, 0)) (uB_ BK469.out) hb); have n4_ := Aside0.mk (qak (hB1_ GE469.out) hb); clear HO_4; clear HO_5; clear HO_23; clear BK469; clear HB; have HO_4 := n0_; have HO_5 := n1_; have HO_23 := n2_; have BK469 := n3_; have HB := n4_; clear n0_ n1_ n2_ n3_ n4_; (try clear hb); (try clear hb2); (try clear hk); (try clear hi)))
        go_ret2
        exact ⟨_, by first | rfl | (simp [errW_none, errW_some] <;> rfl) | (simp [*, errW_none, errW_some] <;> rfl), by first | exact Kd.R_nil _ _ _ _ _ | exact Kd.N_nil _ _ _ _ _ | exact Kd.V_nil _ _ _ _ _ | exact Kd.Q_nil _ _ _ _ _ | exact Kd.S_nil _ _ _ _ _, by repeat (first | (with_reducible first | exact HB.out | apply qad | apply qaa | apply qac | refine qae ?_ GE469.out) | exact HB.out)⟩

end Go.Proofs.YtedfcbbklhfgcaaDoor.Q
