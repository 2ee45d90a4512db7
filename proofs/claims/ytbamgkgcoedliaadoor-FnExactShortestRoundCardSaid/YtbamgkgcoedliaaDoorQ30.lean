import Derived.Test.YtbamgkgcoedliaaDoorQ0
import Derived.Test.YtbamgkgcoedliaaDoorQ26
import Derived.Test.YtbamgkgcoedliaaDoorRepeat
import Derived.Test.YtbamgkgcoedliaaDoorQ29
namespace Go.Proofs.YtbamgkgcoedliaaDoor.Q
open Go.RowKit Go.Proofs.YtbamgkgcoedliaaDoorW.PrintWords Go.Proofs.YtbamgkgcoedliaaDoorW.PrintLast Go.Proofs.YtbamgkgcoedliaaDoorW.PrintMore
attribute [local go_sem] max2_int min2_int max_two min_two max_three min_three max_four min_four   -- for this text's walks alone
set_option linter.unusedVariables false
set_option linter.unusedSimpArgs false

/-! ### slices_Repeat_int_int: function 27 (proved by hand) -/
/-- One number, so many times (at most 128). -/
def slices_Repeat_int_int.f (l0 : List Int) (a1 : Int) : Option (List Int) := if l0.length = 1 ∧ 0 ≤ a1 ∧ a1 ≤ 128 then some (List.replicate a1.toNat (rd l0 0)) else none
theorem slices_Repeat_int_int.mul : ∀ n : Fin 129, bits_Mul.f 1 (n.val : Int) = some (0, (n.val : Int)) := by decide +kernel
set_option maxHeartbeats 8000000 in
set_option maxRecDepth 100000 in
theorem slices_Repeat_int_int.calls (A0 : Option Addr) (c0 : Nat) (l0 : List Int) (a1 : Int) (r : List Int) (w : World) (hr0 : Kd.C (Kd.int .i64) w A0 l0.length l0) (hc0 : l0.length ≤ c0) (h : slices_Repeat_int_int.f l0 a1 = some r) :
  Calls Tryd.prog 27 #[.slice A0 l0.length c0, .int .i64 a1] w fun e w' => ∃ v0_ : Value, e = .returned (v0_) ∧ Kd.R (Kd.int .i64) 3 w' w.heap.size (fun _ => True) v0_ r ∧ Below w.heap.size w w' := by
 unfold slices_Repeat_int_int.f at h
 by_cases hl : l0.length = 1 ∧ 0 ≤ a1 ∧ a1 ≤ 128
 ·rw [if_pos hl] at h
  obtain rfl := Option.some.inj h
  clear h
  obtain ⟨h1, h2, h3⟩ := hl
  obtain ⟨x, rfl⟩ : ∃ x, l0 = [x] := List.length_eq_one_iff.1 h1
  obtain ⟨N, rfl⟩ := Int.eq_ofNat_of_zero_le (show 0 ≤ a1 by omega)
  have HM := Aside0.mk (show bits_Mul.f 1 (N : Int) = some (0, (N : Int)) from slices_Repeat_int_int.mul ⟨N, by omega⟩)
  have HR0 := Aside0.mk hr0
  clear hr0 h1
  obtain ⟨ad0, rfl, hx0⟩ := Kd.at_int HR0.out 0 (by omega) (by simp)
  rw [show rd [x] 0 = x from rfl, Int.toNat_natCast]
  have HB := Aside0.mk (Below.refl w.heap.size w)
  have q0 : ¬ ((N : Int) < 0) := by omega
  have q1 : decide ((N : Int) < 0) = false := decide_eq_false q0
  have q4 : ¬ ((N : Int) > 9223372036854775807) := by omega
  have q5 : decide ((N : Int) > 9223372036854775807) = false := decide_eq_false q4
  obtain ⟨iI, hiI, _, hszI, _⟩ := info_parts info3
  have hsI : (Tryd.prog.info? 3).map (·.size) = some 1 := by rw [hiI]; simp [hszI]
  rcases Nat.eq_zero_or_pos N with hz | hpos
  ·subst hz
   have HM0 := Aside0.mk (show bits_Mul.f 1 0 = some (0, 0) from slices_Repeat_int_int.mul ⟨0, by omega⟩)
   clear HM q1 q5 q0 q4 h2 h3
   show Calls Tryd.prog 27 #[.slice (some ad0) 1 c0, .int .i64 0] w _
   go_enter Tryd.func27, Tryd.ntmps27
   go_wp2_with (first | (go_at_call 33; (with_reducible refine (bits_Mul.calls 1 0 0 0 _ HM0.out).mono ?_); rintro e w2 ⟨rfl, hd⟩; obtain ⟨nd, rfl⟩ := hd; skip) | ((with_reducible refine gate_dst (N := 30) rfl ?_); refine Kd.R_make (Kd.int .i64) _ 3 rfl (N := 30) rfl 41 _ _ rfl 0 rfl rfl Tryd.underlying41 (.int .i64 0) 8 info3 rfl (by decide) (by omega) 0 (ok := fun _ => True) (okp := fun _ => True) rfl (fun _ hk => hk) trivial (by omega) (by decide) (Below.refl _ _) (Nat.le_refl _) ?_; intro v125 w4 ho5 hb hg_ hnew_; clear hg_ hnew_; rw [show (0 : Int).toNat = 0 from rfl] at ho5; obtain ⟨Ao, co, e1⟩ := Kd.R_slice ho5; rw [show (List.replicate 0 (0 : Int)).length = 0 from rfl] at e1; subst e1; have hcp1 : (Builtin.copy_ #[41, 41] 3 #[.slice Ao 0 co, .slice (some ad0) 1 c0]).run Tryd.prog w4 = .ok (.int .i64 0) w4 := run_copy_none (P := Tryd.prog) w4 41 41 3 3 Ao (some ad0) 0 co 1 c0 Tryd.underlying41 hsI (by decide); have HR4 := Aside0.mk (Kd.R_lower (base' := w.heap.size) ho5 (Nat.le_refl _)); have HB4 := Aside0.mk (qao (qac HB.out nd) hb); clear hb ho5))
   go_loopg [8] 1 (fun kq v8 w' => v8 = .int .i64 0 ∧ Aside0 (Kd.R (Kd.int .i64) 3 w' w.heap.size (fun _ => True) (.slice Ao 0 co) (List.replicate 0 0)) ∧ Aside0 (Below w.heap.size w w'))
   case atStart => exact ⟨rfl, HR4, HB4⟩
   case round =>
    clear hcp1 HR4 HB4
    obtain ⟨rfl, HR, HBw⟩ := hrel
    go_wp2
    go_ret
    exact ⟨_, rfl, HR.out, HBw.out⟩
  go_enter Tryd.func27, Tryd.ntmps27
  go_wp2_with (first | (go_at_call 33; (with_reducible refine (bits_Mul.calls 1 (N : Int) 0 (N : Int) _ HM.out).mono ?_); rintro e w2 ⟨rfl, hd⟩; obtain ⟨nd, rfl⟩ := hd; skip) | ((with_reducible refine gate_dst (N := 30) rfl ?_); refine Kd.R_make (Kd.int .i64) _ 3 rfl (N := 30) rfl 41 _ _ rfl (N : Int) rfl rfl Tryd.underlying41 (.int .i64 0) 8 info3 rfl (by decide) (by omega) 0 (ok := fun _ => True) (okp := fun _ => True) rfl (fun _ hk => hk) trivial (by omega) (by rw [Int.toNat_natCast]; omega) (Below.refl _ _) (Nat.le_refl _) ?_; intro v125 w4 ho5 hb hg_ hnew_; clear hg_ hnew_; rw [Int.toNat_natCast] at ho5; obtain ⟨g, cap, e1, hg1, hg2, hg3⟩ := Kd.R_form ho5 (by rw [List.length_replicate]; omega); rw [List.length_replicate] at e1; subst e1; have hx4 : w4.cell? (ad0.add 0) = some (.int .i64 x) := ((hb.cell (World.block_lt_of_cell? (w.drewN nd) _ hx0)).trans hx0); have hcp1 := copy_first (cap := cap) 41 3 3 Tryd.underlying41 hsI ho5 List.length_replicate ad0 c0 x hx4 (by omega); have HR4 := Aside0.mk (R_setCells [x] 0 ho5 (by simp; omega)); have HB4 := Aside0.mk (below_run (w := w) (g := g) hg1 [.int .i64 x] 0 (qao (qac HB.out nd) hb)); clear hb hx4))
  go_loopg [8] 200 (fun kq v8 w' => ∃ n : Nat, v8 = .int .i64 (n : Int) ∧ Aside0 (1 ≤ n ∧ n ≤ N ∧ N + 1 ≤ n + kq) ∧ Aside0 (Kd.R (Kd.int .i64) 3 w' w.heap.size (fun _ => True) (.slice (some ⟨g, 0, none⟩) N cap) (List.replicate n x ++ List.replicate (N - n) 0)) ∧ Aside0 (Below w.heap.size w w'))
  case atStart =>
   refine ⟨1, rfl, ⟨by omega⟩, ⟨?_⟩, HB4⟩
   have q := Kd.R_lower HR4.out (show w.heap.size ≤ _ from Nat.le_refl _)
   rw [show List.take 0 (List.replicate N (0 : Int)) ++ [x] ++ List.drop (0 + [x].length) (List.replicate N 0) = List.replicate 1 x ++ List.replicate (N - 1) 0 by simp] at q
   exact q
  case round =>
   clear hcp1 HR4 HB4 ho5
   obtain ⟨n, rfl, HN, HR, HBw⟩ := hrel
   cases gk with
   | zero => exact absurd HN.out (by omega)
   | succ k1 =>
    by_cases c : n < N
    ·have c0 : decide ((n : Int) < (N : Int)) = true := decide_eq_true (by omega)
     have hcap := (Kd.R_reads' HR.out).2.1
     have hcA0 := cut_from (P := Tryd.prog) 41 3 .i64 Tryd.underlying41 hiI 1 hszI (some ⟨g, 0, none⟩) N cap (n : Int) (by omega) (by omega)
     rw [Int.toNat_natCast, if_neg (show ¬ (cap = n) by omega)] at hcA0
     have n1 := HN.out.1
     have hcA : ∀ W : World, (Instr.slice 41 (.slice (some ⟨g, 0, none⟩) N cap) (some (.int .i64 (n : Int))) none none).run Tryd.prog W = .ok (.slice (some ⟨g, n, none⟩) (N - n) (cap - n)) W := fun W => by
      have q := hcA0 W
      rw [q]
      simp [Addr.add, show n ≠ 0 by omega]
     have hcB := cut_to (P := Tryd.prog) 41 3 .i64 Tryd.underlying41 hiI (some ⟨g, 0, none⟩) N cap (n : Int) (by omega) (by omega) hcap
     rw [Int.toNat_natCast] at hcB
     obtain ⟨W2, hcp, HR2, vs, hW2⟩ := copy_twice 41 3 3 Tryd.underlying41 hsI (show Kd.R (Kd.int .i64) 3 wr.drew w.heap.size (fun _ => True) (.slice (some ⟨g, 0, none⟩) N cap) (List.replicate n x ++ List.replicate (N - n) 0) from by apply Kd.R_drew; exact HR.out) (Nat.le_of_lt c)
     have HR3 := Aside0.mk HR2
     have HB3 := Aside0.mk (show Below w.heap.size w W2 by rw [hW2]; exact below_run (show w.heap.size ≤ g from hg1) _ _ (qaf HBw.out))
     have hm1 : 1 ≤ Nat.min n (N - n) := Nat.le_min.2 ⟨by omega, by omega⟩
     have hm2 : Nat.min n (N - n) ≤ N - n := Nat.min_le_right _ _
     clear HR2 hW2 hcA0
     generalize Nat.min n (N - n) = m at hcp HR3 hm1 hm2
     have hw : IntKind.i64.wrap ((n : Int) + (m : Int)) = ((n + m : Nat) : Int) := by rw [qai]; unfold wrap64; omega
     go_wp2
     go_region
     go_wp2
     go_roundg k1
     case measure => have := HN.out; omega
     case rel => exact ⟨n + m, by first | rfl | (simp; done) | (simp [hw]; done) | (simp [*]; done), ⟨by have := HN.out; omega⟩, HR3, HB3⟩
    ·have c0 : decide ((n : Int) < (N : Int)) = false := decide_eq_false (by omega)
     have HE := Aside0.mk (show n = N by have := HN.out; omega)
     go_wp2
     go_ret
     refine ⟨_, rfl, ?_, HBw.out⟩
     have q := HR.out
     rw [HE.out, Nat.sub_self, List.replicate_zero, List.append_nil] at q
     exact q
 ·rw [if_neg hl] at h; cases h

end Go.Proofs.YtbamgkgcoedliaaDoor.Q
namespace Go.Proofs.YtbamgkgcoedliaaDoor.Q
open Go.RowKit Go.Proofs.YtbamgkgcoedliaaDoorW.PrintWords Go.Proofs.YtbamgkgcoedliaaDoorW.PrintLast Go.Proofs.YtbamgkgcoedliaaDoorW.PrintMore
attribute [local go_sem] max2_int min2_int max_two min_two max_three min_three max_four min_four   -- for this text's walks alone
set_option linter.unusedVariables false
set_option linter.unusedSimpArgs false

/-! ### impl_table_distances: function 18 -/
mutual
def impl_table_distances.l0 : Nat → List Int → List Int → Int → Int → Int → Option (List Int)
 | 0, _, _, _, _, _ => none
 | k + 1, x0, x5, x6, x7, x8 => if x7 = 0 then (some x5) else ((impl_listed.f k x7).bind fun t266 => (impl_table_distances.l1 k x0 x5 (Go.bits .or .u16 x6 x7) x8 0 t266 (t266.length : Int) 0))
def impl_table_distances.l1 : Nat → List Int → List Int → Int → Int → Int → List Int → Int → Int → Option (List Int)
 | 0, _, _, _, _, _, _, _, _ => none
 | k + 1, x0, x5, x6, x8, x9, x26, x27, x28 => if x28 < x27 then (if 0 ≤ x28 then (if x28 < (x26.length : Int) then (if 0 ≤ (rd x26 x28) then (if (rd x26 x28) < (x5.length : Int) then (if (rd x26 x28) < (x0.length : Int) then (impl_table_distances.l1 k x0 (x5.set ((rd x26 x28) : Int).toNat x8) x6 x8 (Go.bits .or .u16 x9 (rd x0 (rd x26 x28))) x26 x27 (wrap64 (x28 + 1))) else (none)) else (none)) else (none)) else (none)) else (none)) else (impl_table_distances.l0 k x0 x5 x6 (Go.bits .andNot .u16 x9 x6) (wrap64 (x8 + 1)))
end
def impl_table_distances.f (k : Nat) (l0 : List Int) (a1 : Int) : Option (List Int) := (slices_Repeat_int_int.f (([(-1)] : List Int)) (l0.length : Int)).bind fun t263 => (if 0 ≤ a1 then (impl_table_distances.l0 k l0 t263 0 (shl .u16 1 a1) 0) else (none))
theorem impl_table_distances.mono_l : ∀ k, (∀ y0 y1 y2 y3 y4, LeO (impl_table_distances.l0 k y0 y1 y2 y3 y4) (impl_table_distances.l0 (k + 1) y0 y1 y2 y3 y4)) ∧ (∀ y0 y1 y2 y3 y4 y5 y6 y7, LeO (impl_table_distances.l1 k y0 y1 y2 y3 y4 y5 y6 y7) (impl_table_distances.l1 (k + 1) y0 y1 y2 y3 y4 y5 y6 y7))
 | 0 => ⟨fun _ _ _ _ _ r h => by simp [impl_table_distances.l0] at h, fun _ _ _ _ _ _ _ _ r h => by simp [impl_table_distances.l1] at h⟩
 | k + 1 => by
  obtain ⟨ih0, ih1⟩ := impl_table_distances.mono_l k
  refine ⟨?_, ?_⟩
  ·intro y0 y1 y2 y3 y4
   unfold impl_table_distances.l0
   repeat' first
   | (with_reducible exact ih0 _ _ _ _ _)
   | (with_reducible exact ih1 _ _ _ _ _ _ _ _)
   | (with_reducible exact impl_listed.mono _ _)
   | (with_reducible exact LeO.refl _)
   | (with_reducible exact LeO.none _)
   | (with_reducible refine LeO.ite ?_ ?_)
   | (with_reducible refine LeO.bind ?_ (fun _ => ?_))
   | exact ih0 _ _ _ _ _
   | exact ih1 _ _ _ _ _ _ _ _
   | exact impl_listed.mono _ _
   | exact LeO.none _
   | refine LeO.ite ?_ ?_
   | refine LeO.bind ?_ (fun _ => ?_)
  ·intro y0 y1 y2 y3 y4 y5 y6 y7
   unfold impl_table_distances.l1
   repeat' first
   | (with_reducible exact ih0 _ _ _ _ _)
   | (with_reducible exact ih1 _ _ _ _ _ _ _ _)
   | (with_reducible exact impl_listed.mono _ _)
   | (with_reducible exact LeO.refl _)
   | (with_reducible exact LeO.none _)
   | (with_reducible refine LeO.ite ?_ ?_)
   | (with_reducible refine LeO.bind ?_ (fun _ => ?_))
   | exact ih0 _ _ _ _ _
   | exact ih1 _ _ _ _ _ _ _ _
   | exact impl_listed.mono _ _
   | exact LeO.none _
   | refine LeO.ite ?_ ?_
   | refine LeO.bind ?_ (fun _ => ?_)
theorem impl_table_distances.mono : ∀ a0 a1 k, LeO (impl_table_distances.f k a0 a1) (impl_table_distances.f (k + 1) a0 a1) := by
 intro a0 a1 k
 obtain ⟨ih0, ih1⟩ := impl_table_distances.mono_l k
 unfold impl_table_distances.f
 repeat' first
   | (with_reducible exact ih0 _ _ _ _ _)
   | (with_reducible exact ih1 _ _ _ _ _ _ _ _)
   | (with_reducible exact impl_listed.mono _ _)
   | (with_reducible exact LeO.refl _)
   | (with_reducible exact LeO.none _)
   | (with_reducible refine LeO.ite ?_ ?_)
   | (with_reducible refine LeO.bind ?_ (fun _ => ?_))
   | exact ih0 _ _ _ _ _
   | exact ih1 _ _ _ _ _ _ _ _
   | exact impl_listed.mono _ _
   | exact LeO.none _
   | refine LeO.ite ?_ ?_
   | refine LeO.bind ?_ (fun _ => ?_)
set_option maxHeartbeats 8000000 in
set_option maxRecDepth 100000 in
theorem impl_table_distances.calls (k : Nat) (A0 : Option Addr) (c0 : Nat) (l0 : List Int) (a1 : Int) (r : List Int) (w : World) (hG : Tab w) (hr0 : Kd.C (Kd.int .u16) w A0 l0.length l0) (hc0 : l0.length ≤ c0) (h : impl_table_distances.f k l0 a1 = some r) :
  Calls Tryd.prog 18 #[.slice A0 l0.length c0, .int .i64 a1] w fun e w' => ∃ v0_ : Value, e = .returned (v0_) ∧ Kd.R (Kd.int .i64) 3 w' w.heap.size (fun _ => True) v0_ r ∧ Below w.heap.size w w' := by
 have HG := Aside0.mk hG
 clear hG
 have HR0 := Aside0.mk hr0
 have HC0 := Aside0.mk hc0
 clear hr0 hc0
 have HB := Aside0.mk (Below.refl w.heap.size w)
 have H : ((slices_Repeat_int_int.f (([(-1)] : List Int)) (l0.length : Int)).bind fun t263 => (if 0 ≤ a1 then (impl_table_distances.l0 k l0 t263 0 (shl .u16 1 a1) 0) else (none))) = some r := h
 clear h
 obtain ⟨y260, hy260⟩ : ∃ y_ : List Int, y_ = (([(-1)] : List Int)) := ⟨_, rfl⟩
 replace H : ((slices_Repeat_int_int.f y260 (l0.length : Int)).bind fun t263 => (if 0 ≤ a1 then (impl_table_distances.l0 k l0 t263 0 (shl .u16 1 a1) 0) else (none))) = some r := by first | (rw [hy260]; with_reducible exact H) | (have H2_ := (Option.bind_some _ _).symm.trans H; rw [hy260]; with_reducible exact H2_) | (have H2_ := (Option.bind_some _ _).symm.trans H; with_reducible exact H2_) | with_reducible exact H | (rw [hy260]; exact H) | exact H
 have Ny260 := Aside0.mk hy260
 clear hy260
 replace H := Option.bind_eq_some_iff.mp H
 obtain ⟨t263, A30, H⟩ := H
 replace H : (if 0 ≤ a1 then (impl_table_distances.l0 k l0 t263 0 (shl .u16 1 a1) 0) else (none)) = some r := H
 have A3 := Aside0.mk A30
 clear A30
 by_cases c4 : 0 ≤ a1
 ·rw [if_pos c4] at H
  have c4b0 := eq_true c4
  have c4b1 : decide (0 ≤ a1) = true := decide_eq_true c4
  clear c4
  obtain ⟨ji5, hji5⟩ : ∃ j_ : Int, (shl .u16 1 a1) = j_ := ⟨_, rfl⟩
  replace H : (impl_table_distances.l0 k l0 t263 0 ji5 0) = some r := by first | (rw [hji5] at H; exact H) | (simp only [hji5] at H ⊢; exact H)
  (try rw [hji5] at A3)
  have hji5_ : (IntKind.u16.wrap (1 * 2 ^ min a1.toNat 16)) = ji5 := hji5
  have hji5z : a1 ≤ 16 → (IntKind.u16.wrap (1 * 2 ^ a1.toNat)) = ji5 := shl_small hji5
  have hji5u : (IntKind.u16.wrap (2 ^ min a1.toNat 16)) = ji5 := by have h_ := hji5_; rw [Int.one_mul] at h_; exact h_
  have hji5v : a1 ≤ 16 → (IntKind.u16.wrap (2 ^ a1.toNat)) = ji5 := fun hle_ => by have h_ := hji5z hle_; rw [Int.one_mul] at h_; exact h_
  have H' := Aside0.mk H
  clear H
  go_enter Tryd.func18, Tryd.ntmps18
  go_wp2_with (first | ((with_reducible refine gate_dst (N := 12) rfl ?_); refine Kd.R_lit (Kd.int .i64) _ 3 ?hg (N := 12) ?hd (xs := ([(-1)] : List Int)) (inner := [.int .i64 (-1)]) (ok := fun _ => True) (okp := fun _ => True) ?hr ?hp (fun _ hk => hk) trivial (Below.refl _ _) (Nat.le_refl _) (by simp) ?_; (case hd => rfl); (case hg => rfl); (case hr => first | (go_simp; done) | (go_simp; rfl)); (case hp => exact (Reps.one (show Kd.M (Kd.int .i64) _ _ _ (-1) [.int .i64 (-1)] from rfl) (Reps.none _ _))); intro v261 w6 ho7 hb hg_ hnew_; clear hg_ hnew_; (first | rw [← Ny260.out] at ho7 | (simp only [Int.reduceToNat] at ho7; rw [← Ny260.out] at ho7)); have n0_ := Aside0.mk (Kd.R_lower ho7 (qap hB_)); have n1_ := Aside0.mk (qao hB_ hb); clear HB; have HO262 := n0_; have HB := n1_; clear n0_ n1_; clear hb ho7; obtain ⟨Ao8, co8, eo8⟩ := Kd.R_slice HO262.out; subst eo8) | (go_at_call 27; (with_reducible refine (slices_Repeat_int_int.calls _ _ y260 (l0.length : Int) t263 _ ?side1 ?side2 A3.out).mono ?_); (case side1 => repeat (first | exact (Kd.R_reads' HO262.out).2.2 | (with_reducible refine Kd.C_alloc ?_ _) | (with_reducible refine Kd.C_drewN ?_ _) | (with_reducible refine Kd.C_drew ?_))); (case side2 => exact (Kd.R_reads' HO262.out).2.1); rintro e w9 ⟨v264, rfl, ho0, hb⟩; have n0_ := Aside0.mk (Kd.R_elder' (uR_ HO262.out) (Kd.R_base ho0) hb); have n1_ := Aside0.mk (Kd.R_lower (Kd.R_new' ho0 (Kd.R_lt (uR_ HO262.out))) (qap hB_)); have n2_ := Aside0.mk (qao hB_ hb); clear HO262; clear HB; have HO262 := n0_; have HO265 := n1_; have HB := n2_; clear n0_ n1_ n2_; (try clear hb); (try clear hb2); (try clear hk); (try clear hi); (try clear ho0)))
  repeat (go_quiet (first | ((with_reducible refine gate_dst (N := 12) rfl ?_); refine Kd.R_lit (Kd.int .i64) _ 3 ?hg (N := 12) ?hd (xs := ([(-1)] : List Int)) (inner := [.int .i64 (-1)]) (ok := fun _ => True) (okp := fun _ => True) ?hr ?hp (fun _ hk => hk) trivial (Below.refl _ _) (Nat.le_refl _) (by simp) ?_; (case hd => rfl); (case hg => rfl); (case hr => first | (go_simp; done) | (go_simp; rfl)); (case hp => exact (Reps.one (show Kd.M (Kd.int .i64) _ _ _ (-1) [.int .i64 (-1)] from rfl) (Reps.none _ _))); intro v261 w6 ho7 hb hg_ hnew_; clear hg_ hnew_; (first | rw [← Ny260.out] at ho7 | (simp only [Int.reduceToNat] at ho7; rw [← Ny260.out] at ho7)); have n0_ := Aside0.mk (Kd.R_lower ho7 (qap hB_)); have n1_ := Aside0.mk (qao hB_ hb); clear HB; have HO262 := n0_; have HB := n1_; clear n0_ n1_; clear hb ho7; obtain ⟨Ao8, co8, eo8⟩ := Kd.R_slice HO262.out; subst eo8) | (go_at_call 27; (with_reducible refine (slices_Repeat_int_int.calls _ _ y260 (l0.length : Int) t263 _ ?side1 ?side2 A3.out).mono ?_); (case side1 => repeat (first | exact (Kd.R_reads' HO262.out).2.2 | (with_reducible refine Kd.C_alloc ?_ _) | (with_reducible refine Kd.C_drewN ?_ _) | (with_reducible refine Kd.C_drew ?_))); (case side2 => exact (Kd.R_reads' HO262.out).2.1); rintro e w9 ⟨v264, rfl, ho0, hb⟩; have n0_ := Aside0.mk (Kd.R_elder' (uR_ HO262.out) (Kd.R_base ho0) hb); have n1_ := Aside0.mk (Kd.R_lower (Kd.R_new' ho0 (Kd.R_lt (uR_ HO262.out))) (qap hB_)); have n2_ := Aside0.mk (qao hB_ hb); clear HO262; clear HB; have HO262 := n0_; have HO265 := n1_; have HB := n2_; clear n0_ n1_ n2_; (try clear hb); (try clear hb2); (try clear hk); (try clear hi); (try clear ho0))); try go_wp2_with (first | ((with_reducible refine gate_dst (N := 12) rfl ?_); refine Kd.R_lit (Kd.int .i64) _ 3 ?hg (N := 12) ?hd (xs := ([(-1)] : List Int)) (inner := [.int .i64 (-1)]) (ok := fun _ => True) (okp := fun _ => True) ?hr ?hp (fun _ hk => hk) trivial (Below.refl _ _) (Nat.le_refl _) (by simp) ?_; (case hd => rfl); (case hg => rfl); (case hr => first | (go_simp; done) | (go_simp; rfl)); (case hp => exact (Reps.one (show Kd.M (Kd.int .i64) _ _ _ (-1) [.int .i64 (-1)] from rfl) (Reps.none _ _))); intro v261 w6 ho7 hb hg_ hnew_; clear hg_ hnew_; (first | rw [← Ny260.out] at ho7 | (simp only [Int.reduceToNat] at ho7; rw [← Ny260.out] at ho7)); have n0_ := Aside0.mk (Kd.R_lower ho7 (qap hB_)); have n1_ := Aside0.mk (qao hB_ hb); clear HB; have HO262 := n0_; have HB := n1_; clear n0_ n1_; clear hb ho7; obtain ⟨Ao8, co8, eo8⟩ := Kd.R_slice HO262.out; subst eo8) | (go_at_call 27; (with_reducible refine (slices_Repeat_int_int.calls _ _ y260 (l0.length : Int) t263 _ ?side1 ?side2 A3.out).mono ?_); (case side1 => repeat (first | exact (Kd.R_reads' HO262.out).2.2 | (with_reducible refine Kd.C_alloc ?_ _) | (with_reducible refine Kd.C_drewN ?_ _) | (with_reducible refine Kd.C_drew ?_))); (case side2 => exact (Kd.R_reads' HO262.out).2.1); rintro e w9 ⟨v264, rfl, ho0, hb⟩; have n0_ := Aside0.mk (Kd.R_elder' (uR_ HO262.out) (Kd.R_base ho0) hb); have n1_ := Aside0.mk (Kd.R_lower (Kd.R_new' ho0 (Kd.R_lt (uR_ HO262.out))) (qap hB_)); have n2_ := Aside0.mk (qao hB_ hb); clear HO262; clear HB; have HO262 := n0_; have HO265 := n1_; have HB := n2_; clear n0_ n1_ n2_; (try clear hb); (try clear hb2); (try clear hk); (try clear hi); (try clear ho0))))
  go_loopg [6, 7, 8] k (fun kq v6 v7 v8 w' => ∃ (x5_1 : List Int) (x6_1 : Int) (x7_1 : Int) (x8_1 : Int), v6 = .int .u16 x6_1 ∧ v7 = .int .u16 x7_1 ∧ v8 = .int .i64 x8_1 ∧ Aside0 (impl_table_distances.l0 kq l0 x5_1 x6_1 x7_1 x8_1 = some r) ∧ Aside0 (kq ≤ k) ∧ Aside0 (Kd.R (Kd.int .i64) 3 w' w.heap.size (fun _ => True) v264 x5_1) ∧ Aside0 (Below w.heap.size w w'))
  case atStart => exact ⟨(t263), (0), (ji5), (0), rS_, (by first | rfl | (simp; done) | (simp only [← hji5] <;> (first | rfl | simp)) | (simp [*]; done)), rS_, H', ⟨Nat.le_refl _⟩, ⟨by (with_reducible repeat (first | apply Kd.R_alloc | apply Kd.R_drewN | apply Kd.R_drew)); exact Kd.R_mono HO265.out (fun _ hk => trivial)⟩, ⟨by repeat (first | (with_reducible first | exact HB.out | apply qal | apply qac | apply qaf) | exact HB.out)⟩⟩
  case round =>
   clear H'
   obtain ⟨x5_1, x6_1, x7_1, x8_1, rfl, rfl, rfl, HA, HK1, HO_5, HB⟩ := hrel
   cases gk with
   | zero => exact absurd HA.out (by simp [impl_table_distances.l0])
   | succ k1 =>
    have H := HA.out
    clear HA
    simp only [impl_table_distances.l0] at H
    by_cases c10 : x7_1 = 0
    ·rw [if_pos c10] at H
     have c10b0 : (x7_1 == 0) = true := beq_iff_eq.mpr c10
     have c10b1 : (x7_1 != 0) = false := bne_eq_false_iff_eq.mpr c10
     clear c10
     obtain rfl := Option.some.inj H
     go_wp2
     repeat (go_quiet (fail); try go_wp2)
     go_ret
     exact ⟨_, by first | rfl | (simp [errW_none, errW_some] <;> rfl) | (simp only [← hji5]; first | rfl | (simp [errW_none, errW_some] <;> rfl)) | (simp [*, errW_none, errW_some] <;> rfl), by (with_reducible repeat (first | apply Kd.R_alloc | apply Kd.R_drewN | apply Kd.R_drew)); exact HO_5.out, by repeat (first | (with_reducible first | exact HB.out | apply qal | apply qac | apply qaf) | exact HB.out)⟩
    ·rw [if_neg c10] at H
     have c10b0 : (x7_1 == 0) = false := beq_eq_false_iff_ne.mpr c10
     have c10b1 : (x7_1 != 0) = true := bne_iff_ne.mpr c10
     replace H := Option.bind_eq_some_iff.mp H
     obtain ⟨t266, A110, H⟩ := H
     replace H : (impl_table_distances.l1 k1 l0 x5_1 (Go.bits .or .u16 x6_1 x7_1) x8_1 0 t266 (t266.length : Int) 0) = some r := H
     have A11 := Aside0.mk A110
     clear A110
     have H' := Aside0.mk H
     clear H
     go_wp2_with (first | (go_at_call 28; (with_reducible refine (impl_listed.calls k1 x7_1 t266 _ ?sideG A11.out).mono ?_); (case sideG => first | exact HG.out | exact Tab.below HG.out hB_); rintro e w12 ⟨v267, rfl, ho0, hb⟩; have n0_ := Aside0.mk (Kd.R_elder' (uR_ HO_5.out) (Kd.R_base ho0) hb); have n1_ := Aside0.mk (Kd.R_lower (Kd.R_new' ho0 (Kd.R_lt (uR_ HO_5.out))) (qap hB_)); have n2_ := Aside0.mk (qao hB_ hb); clear HO_5; clear HB; have HO_5 := n0_; have HO268 := n1_; have HB := n2_; clear n0_ n1_ n2_; (try clear hb); (try clear hb2); (try clear hk); (try clear hi); (try clear ho0); obtain ⟨Ao13, co13, eo13⟩ := Kd.R_slice HO268.out; subst eo13))
     repeat (go_quiet (first | (go_at_call 28; (with_reducible refine (impl_listed.calls k1 x7_1 t266 _ ?sideG A11.out).mono ?_); (case sideG => first | exact HG.out | exact Tab.below HG.out hB_); rintro e w12 ⟨v267, rfl, ho0, hb⟩; have n0_ := Aside0.mk (Kd.R_elder' (uR_ HO_5.out) (Kd.R_base ho0) hb); have n1_ := Aside0.mk (Kd.R_lower (Kd.R_new' ho0 (Kd.R_lt (uR_ HO_5.out))) (qap hB_)); have n2_ := Aside0.mk (qao hB_ hb); clear HO_5; clear HB; have HO_5 := n0_; have HO268 := n1_; have HB := n2_; clear n0_ n1_ n2_; (try clear hb); (try clear hb2); (try clear hk); (try clear hi); (try clear ho0); obtain ⟨Ao13, co13, eo13⟩ := Kd.R_slice HO268.out; subst eo13)); try go_wp2_with (first | (go_at_call 28; (with_reducible refine (impl_listed.calls k1 x7_1 t266 _ ?sideG A11.out).mono ?_); (case sideG => first | exact HG.out | exact Tab.below HG.out hB_); rintro e w12 ⟨v267, rfl, ho0, hb⟩; have n0_ := Aside0.mk (Kd.R_elder' (uR_ HO_5.out) (Kd.R_base ho0) hb); have n1_ := Aside0.mk (Kd.R_lower (Kd.R_new' ho0 (Kd.R_lt (uR_ HO_5.out))) (qap hB_)); have n2_ := Aside0.mk (qao hB_ hb); clear HO_5; clear HB; have HO_5 := n0_; have HO268 := n1_; have HB := n2_; clear n0_ n1_ n2_; (try clear hb); (try clear hb2); (try clear hk); (try clear hi); (try clear ho0); obtain ⟨Ao13, co13, eo13⟩ := Kd.R_slice HO268.out; subst eo13)))
     go_loopg [9, 28] k1 (fun kq v9 v28 w' => ∃ (x5_2 : List Int) (x9_2 : Int) (x28_2 : Int), v9 = .int .u16 x9_2 ∧ v28 = .int .i64 x28_2 ∧ Aside0 (impl_table_distances.l1 kq l0 x5_2 (Go.bits .or .u16 x6_1 x7_1) x8_1 x9_2 t266 (t266.length : Int) x28_2 = some r) ∧ Aside0 (kq ≤ k1) ∧ Aside0 (Kd.R (Kd.int .i64) 3 w' w.heap.size (fun k_ => some k_ ≠ ((.slice Ao13 t266.length co13) : Value).ownBlock) v264 x5_2) ∧ Aside0 (Kd.R (Kd.int .i64) 3 w' w.heap.size (fun k_ => some k_ ≠ (v264 : Value).ownBlock) (.slice Ao13 t266.length co13) t266) ∧ Aside0 (Below w.heap.size w w'))
     case atStart => exact ⟨(x5_1), (0), (0), rS_, rS_, H', ⟨Nat.le_refl _⟩, ⟨by (with_reducible repeat (first | apply Kd.R_alloc | apply Kd.R_drewN | apply Kd.R_drew)); exact Kd.R_mono HO_5.out (fun _ hk => hk.2)⟩, ⟨by (with_reducible repeat (first | apply Kd.R_alloc | apply Kd.R_drewN | apply Kd.R_drew)); exact Kd.R_mono HO268.out (fun _ hk => hk.2)⟩, ⟨by repeat (first | (with_reducible first | exact HB.out | apply qal | apply qac | apply qaf) | exact HB.out)⟩⟩
     case round =>
      clear H'
      obtain ⟨x5_2, x9_2, x28_2, rfl, rfl, HA, HK2, HO_5, HO_26, HB⟩ := hrel
      cases gk with
      | zero => exact absurd HA.out (by simp [impl_table_distances.l1])
      | succ k2 =>
       have H := HA.out
       clear HA
       simp only [impl_table_distances.l1] at H
       by_cases c14 : x28_2 < (t266.length : Int)
       ·rw [if_pos c14] at H
        have c14b0 : decide (x28_2 < (t266.length : Int)) = true := decide_eq_true c14
        clear c14
        by_cases c15 : 0 ≤ x28_2
        ·rw [if_pos c15] at H
         have c15b0 : decide (0 ≤ x28_2) = true := decide_eq_true c15
         clear c15
         by_cases c16 : x28_2 < (t266.length : Int)
         ·rw [if_pos c16] at H
          have c16b0 : decide (x28_2 < (t266.length : Int)) = true := decide_eq_true c16
          clear c16
          by_cases c17 : 0 ≤ (rd t266 x28_2)
          ·rw [if_pos c17] at H
           have c17b0 : decide (0 ≤ (rd t266 x28_2)) = true := decide_eq_true c17
           clear c17
           by_cases c18 : (rd t266 x28_2) < (x5_2.length : Int)
           ·rw [if_pos c18] at H
            have c18b0 : decide ((rd t266 x28_2) < (x5_2.length : Int)) = true := decide_eq_true c18
            clear c18
            obtain ⟨y270, hy270⟩ : ∃ y_ : List Int, y_ = (x5_2.set ((rd t266 x28_2) : Int).toNat x8_1) := ⟨_, rfl⟩
            replace H : (if (rd t266 x28_2) < (l0.length : Int) then (impl_table_distances.l1 k2 l0 y270 (Go.bits .or .u16 x6_1 x7_1) x8_1 (Go.bits .or .u16 x9_2 (rd l0 (rd t266 x28_2))) t266 (t266.length : Int) (wrap64 (x28_2 + 1))) else (none)) = some r := by first | (rw [hy270]; with_reducible exact H) | (have H2_ := (Option.bind_some _ _).symm.trans H; rw [hy270]; with_reducible exact H2_) | (have H2_ := (Option.bind_some _ _).symm.trans H; with_reducible exact H2_) | with_reducible exact H | (rw [hy270]; exact H) | exact H
            have Ny270 := Aside0.mk hy270
            clear hy270
            by_cases c20 : (rd t266 x28_2) < (l0.length : Int)
            ·rw [if_pos c20] at H
             have c20b0 : decide ((rd t266 x28_2) < (l0.length : Int)) = true := decide_eq_true c20
             clear c20
             have H' := Aside0.mk H
             clear H
             have p269 : 0 ≤ (x28_2 : Int) := oD_
             have q269 : x28_2 < (t266.length : Int) := oD_
             obtain ⟨ad269, e269, hx269_0⟩ := Kd.at_int (Kd.R_reads' HO_26.out).2.2 x28_2 p269 q269
             cases e269
             replace p269 := eq_true p269
             replace q269 := eq_true q269
             have p19 : 0 ≤ ((rd t266 x28_2) : Int) := oD_
             have q19 : ((rd t266 x28_2) : Int) < ((x5_2.length : Int) : Int) := oD_
             obtain ⟨go19, co19, eo19, gb19, gl19, cl19, HG19⟩ := Kd.R_form HO_5.out (by omega)
             (first | cases eo19 | (injection eo19 with ea_ en_ ec_; (first | subst ea_ | (injection ea_ with ea_; subst ea_)); subst ec_; clear en_))
             have GB19 := Aside0.mk gb19
             have GG19 := Aside0.mk HG19
             clear gb19 gl19 HG19
             obtain ⟨hx19_0, hf19_0⟩ := Kd.R_celln 0 HO_5.out ((rd t266 x28_2) : Int) p19 q19
             replace p19 := eq_true p19
             replace q19 := eq_true q19
             have HP21 := Kd.R_putg HO_5.out ((rd t266 x28_2) : Int) x8_1
             go_wp2_with (first | ((with_reducible refine gate_store (t := 3) (p := 35) rfl ?_); (try (rw [drewN_self wr]; generalize hq_ : World.drewN wr _ = wr; have n0_ := Aside0.mk (Kd.R_at hq_ HO_5.out); have n1_ := Aside0.mk (Kd.R_at hq_ HO_26.out); have n2_ := Aside0.mk (below_at hq_ HB.out); clear hq_ HO_5 HO_26 HB; have HO_5 := n0_; have HO_26 := n1_; have HB := n2_; clear n0_ n1_ n2_; (try (have HP21 := Kd.R_putg HO_5.out ((rd t266 x28_2) : Int) x8_1)))); refine store_event (t := 3) (p := 35) (v := ?vo_w22) (w1 := (wr.setCell ⟨go19, ((rd t266 x28_2) : Int).toNat, none⟩ (.int .i64 x8_1))) ?hg ?ho ?hn ?hr ?_; (case ho => rfl); (case hg => rfl); (case hn => rfl); (case hr => first | (go_simp; done) | (go_simp; rfl)); intro w22 hw; have hg : wr.grownBy w22 (some go19) := (by rw [hw]; exact HP21.2); have hp_ : Kd.R (Kd.int .i64) 3 w22 w.heap.size (fun k_ => some k_ ≠ (.slice (some ad269) t266.length co13 : Value).ownBlock) (.slice (some ⟨go19, 0, none⟩) x5_2.length co19) y270 := (by rw [hw, Ny270.out]; exact HP21.1); clear HP21; have n0_ := Aside0.mk (hp_); have n1_ := Aside0.mk (Kd.R_after (v := (.slice (some ⟨go19, 0, none⟩) x5_2.length co19)) (v1 := (.slice (some ⟨go19, 0, none⟩) x5_2.length co19)) (ok := (fun _ => True)) (by (with_reducible repeat (first | apply Kd.R_alloc | apply Kd.R_drewN | apply Kd.R_drew)); exact Kd.R_mono HO_26.out (fun _ hk => ⟨trivial, hk⟩)) hg (.inl rfl)); have n2_ := Aside0.mk ((by rw [hw]; exact qag (HB.out) GB19.out : Below w.heap.size w w22)); clear HO_5; clear HO_26; clear HB; have HO_5 := n0_; have HO_26 := n1_; have HB := n2_; clear n0_ n1_ n2_; clear hg hw hp_; have p271 : 0 ≤ ((rd t266 x28_2) : Int) := oD_; have q271 : (rd t266 x28_2) < (l0.length : Int) := oD_; obtain ⟨ad271, e271, hx271_0⟩ := Kd.at_int HR0.out (rd t266 x28_2) p271 q271; cases e271; replace hx271_0 := (HB.out.cell (World.block_lt_of_cell? w _ hx271_0)).trans hx271_0; replace p271 := eq_true p271; replace q271 := eq_true q271))
             repeat (go_quiet (first | ((with_reducible refine gate_store (t := 3) (p := 35) rfl ?_); (try (rw [drewN_self wr]; generalize hq_ : World.drewN wr _ = wr; have n0_ := Aside0.mk (Kd.R_at hq_ HO_5.out); have n1_ := Aside0.mk (Kd.R_at hq_ HO_26.out); have n2_ := Aside0.mk (below_at hq_ HB.out); clear hq_ HO_5 HO_26 HB; have HO_5 := n0_; have HO_26 := n1_; have HB := n2_; clear n0_ n1_ n2_; (try (have HP21 := Kd.R_putg HO_5.out ((rd t266 x28_2) : Int) x8_1)))); refine store_event (t := 3) (p := 35) (v := ?vo_w22) (w1 := (wr.setCell ⟨go19, ((rd t266 x28_2) : Int).toNat, none⟩ (.int .i64 x8_1))) ?hg ?ho ?hn ?hr ?_; (case ho => rfl); (case hg => rfl); (case hn => rfl); (case hr => first | (go_simp; done) | (go_simp; rfl)); intro w22 hw; have hg : wr.grownBy w22 (some go19) := (by rw [hw]; exact HP21.2); have hp_ : Kd.R (Kd.int .i64) 3 w22 w.heap.size (fun k_ => some k_ ≠ (.slice (some ad269) t266.length co13 : Value).ownBlock) (.slice (some ⟨go19, 0, none⟩) x5_2.length co19) y270 := (by rw [hw, Ny270.out]; exact HP21.1); clear HP21; have n0_ := Aside0.mk (hp_); have n1_ := Aside0.mk (Kd.R_after (v := (.slice (some ⟨go19, 0, none⟩) x5_2.length co19)) (v1 := (.slice (some ⟨go19, 0, none⟩) x5_2.length co19)) (ok := (fun _ => True)) (by (with_reducible repeat (first | apply Kd.R_alloc | apply Kd.R_drewN | apply Kd.R_drew)); exact Kd.R_mono HO_26.out (fun _ hk => ⟨trivial, hk⟩)) hg (.inl rfl)); have n2_ := Aside0.mk ((by rw [hw]; exact qag (HB.out) GB19.out : Below w.heap.size w w22)); clear HO_5; clear HO_26; clear HB; have HO_5 := n0_; have HO_26 := n1_; have HB := n2_; clear n0_ n1_ n2_; clear hg hw hp_; have p271 : 0 ≤ ((rd t266 x28_2) : Int) := oD_; have q271 : (rd t266 x28_2) < (l0.length : Int) := oD_; obtain ⟨ad271, e271, hx271_0⟩ := Kd.at_int HR0.out (rd t266 x28_2) p271 q271; cases e271; replace hx271_0 := (HB.out.cell (World.block_lt_of_cell? w _ hx271_0)).trans hx271_0; replace p271 := eq_true p271; replace q271 := eq_true q271)); try go_wp2_with (first | ((with_reducible refine gate_store (t := 3) (p := 35) rfl ?_); (try (rw [drewN_self wr]; generalize hq_ : World.drewN wr _ = wr; have n0_ := Aside0.mk (Kd.R_at hq_ HO_5.out); have n1_ := Aside0.mk (Kd.R_at hq_ HO_26.out); have n2_ := Aside0.mk (below_at hq_ HB.out); clear hq_ HO_5 HO_26 HB; have HO_5 := n0_; have HO_26 := n1_; have HB := n2_; clear n0_ n1_ n2_; (try (have HP21 := Kd.R_putg HO_5.out ((rd t266 x28_2) : Int) x8_1)))); refine store_event (t := 3) (p := 35) (v := ?vo_w22) (w1 := (wr.setCell ⟨go19, ((rd t266 x28_2) : Int).toNat, none⟩ (.int .i64 x8_1))) ?hg ?ho ?hn ?hr ?_; (case ho => rfl); (case hg => rfl); (case hn => rfl); (case hr => first | (go_simp; done) | (go_simp; rfl)); intro w22 hw; have hg : wr.grownBy w22 (some go19) := (by rw [hw]; exact HP21.2); have hp_ : Kd.R (Kd.int .i64) 3 w22 w.heap.size (fun k_ => some k_ ≠ (.slice (some ad269) t266.length co13 : Value).ownBlock) (.slice (some ⟨go19, 0, none⟩) x5_2.length co19) y270 := (by rw [hw, Ny270.out]; exact HP21.1); clear HP21; have n0_ := Aside0.mk (hp_); have n1_ := Aside0.mk (Kd.R_after (v := (.slice (some ⟨go19, 0, none⟩) x5_2.length co19)) (v1 := (.slice (some ⟨go19, 0, none⟩) x5_2.length co19)) (ok := (fun _ => True)) (by (with_reducible repeat (first | apply Kd.R_alloc | apply Kd.R_drewN | apply Kd.R_drew)); exact Kd.R_mono HO_26.out (fun _ hk => ⟨trivial, hk⟩)) hg (.inl rfl)); have n2_ := Aside0.mk ((by rw [hw]; exact qag (HB.out) GB19.out : Below w.heap.size w w22)); clear HO_5; clear HO_26; clear HB; have HO_5 := n0_; have HO_26 := n1_; have HB := n2_; clear n0_ n1_ n2_; clear hg hw hp_; have p271 : 0 ≤ ((rd t266 x28_2) : Int) := oD_; have q271 : (rd t266 x28_2) < (l0.length : Int) := oD_; obtain ⟨ad271, e271, hx271_0⟩ := Kd.at_int HR0.out (rd t266 x28_2) p271 q271; cases e271; replace hx271_0 := (HB.out.cell (World.block_lt_of_cell? w _ hx271_0)).trans hx271_0; replace p271 := eq_true p271; replace q271 := eq_true q271)))
             go_roundg k2
             case measure => have := HK1.out; have := HK2.out; omega
             case rel => exact ⟨(y270), (Go.bits .or .u16 x9_2 (rd l0 (rd t266 x28_2))), (wrap64 (x28_2 + 1)), rS_, rS_, H', ⟨by have := HK1.out; have := HK2.out; omega⟩, ⟨by (with_reducible repeat (first | apply Kd.R_alloc | apply Kd.R_drewN | apply Kd.R_drew)); exact HO_5.out⟩, ⟨by (with_reducible repeat (first | apply Kd.R_alloc | apply Kd.R_drewN | apply Kd.R_drew)); exact Kd.R_mono HO_26.out (fun _ hk => hk.2)⟩, ⟨by repeat (first | (with_reducible first | exact HB.out | apply qal | apply qac | apply qaf) | exact HB.out)⟩⟩
            ·rw [if_neg c20] at H
             exact absurd H (by simp)
           ·rw [if_neg c18] at H
            exact absurd H (by simp)
          ·rw [if_neg c17] at H
           exact absurd H (by simp)
         ·rw [if_neg c16] at H
          exact absurd H (by simp)
        ·rw [if_neg c15] at H
         exact absurd H (by simp)
       ·rw [if_neg c14] at H
        have c14b0 : decide (x28_2 < (t266.length : Int)) = false := decide_eq_false c14
        clear c14
        have H' := Aside0.mk H
        clear H
        go_wp2
        repeat (go_quiet (fail); try go_wp2)
        go_roundg k2
        case measure => have := HK1.out; have := HK2.out; omega
        case rel => exact ⟨(x5_2), ((Go.bits .or .u16 x6_1 x7_1)), (Go.bits .andNot .u16 x9_2 (Go.bits .or .u16 x6_1 x7_1)), (wrap64 (x8_1 + 1)), rS_, rS_, rS_, H', ⟨by have := HK1.out; have := HK2.out; omega⟩, ⟨by (with_reducible repeat (first | apply Kd.R_alloc | apply Kd.R_drewN | apply Kd.R_drew)); exact Kd.R_mono HO_5.out (fun _ hk => trivial)⟩, ⟨by repeat (first | (with_reducible first | exact HB.out | apply qal | apply qac | apply qaf) | exact HB.out)⟩⟩
 ·rw [if_neg c4] at H
  exact absurd H (by simp)

end Go.Proofs.YtbamgkgcoedliaaDoor.Q
