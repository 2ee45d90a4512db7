import Derived.Test.YtbamgkgcoedliaaDoorQ0
namespace Go.Proofs.YtbamgkgcoedliaaDoor.Q
open Go.RowKit Go.Proofs.YtbamgkgcoedliaaDoorW.PrintWords Go.Proofs.YtbamgkgcoedliaaDoorW.PrintLast Go.Proofs.YtbamgkgcoedliaaDoorW.PrintMore
attribute [local go_sem] max2_int min2_int max_two min_two max_three min_three max_four min_four   -- for this text's walks alone
set_option linter.unusedVariables false
set_option linter.unusedSimpArgs false

/-! ### bits_TrailingZeros16: function 34 (proved by hand) -/
/-- The library's table, as the program's text lays it. -/
def debL : List Int := [0, 1, 28, 2, 29, 14, 24, 3, 30, 22, 20, 15, 25, 17, 4, 8, 31, 27, 13, 23, 21, 19, 16, 7, 26, 12, 18, 6, 11, 5, 10, 9]
/-- The table lies in memory. -/
def Tab (w : World) : Prop := ∀ i, i < 32 → w.cell? ⟨0, i, none⟩ = some (.int .u8 (debL.getD i 0))
theorem Tab.below {w W : World} (h : Tab w) (hb : Below w.heap.size w W) : Tab W := fun i hi => (hb.cell (World.block_lt_of_cell? w _ (h i hi))).trans (h i hi)
/-- The place of the lowest bit. -/
def tz : Nat → Nat → Nat
 | 0, _ => 0
 | k + 1, m => if m % 2 = 1 then 0 else tz k (m / 2) + 1
/-- How many zeros stand behind the lowest one. -/
def bits_TrailingZeros16.f (a0 : Int) : Option (Int) := if 0 ≤ a0 ∧ a0 < 65536 then (if a0 = 0 then some 16 else some ((tz 16 a0.toNat : Nat) : Int)) else none
theorem tz_bit : ∀ (k m : Nat), 0 < m → m < 2 ^ k → ∃ t q, t < k ∧ tz k m = t ∧ m = 2 ^ t * (2 * q + 1)
 | 0, m, h0, h => by simp at h; omega
 | k + 1, m, h0, h => by
  unfold tz
  by_cases c : m % 2 = 1
  ·rw [if_pos c]
   exact ⟨0, m / 2, by omega, rfl, by omega⟩
  ·rw [if_neg c]
   obtain ⟨t, q, h1, h2, h3⟩ := tz_bit k (m / 2) (by omega) (by rw [Nat.pow_succ] at h; omega)
   refine ⟨t + 1, q, by omega, by rw [h2], ?_⟩
   have : m = 2 * (m / 2) := by omega
   rw [this, h3, Nat.pow_succ]
   rw [Nat.mul_comm (2 ^ t) 2, Nat.mul_assoc]
theorem low_bit {t q : Nat} (h : 2 ^ t * (2 * q + 1) < 2 ^ 16) : (2 ^ t * (2 * q + 1)) &&& (2 ^ 16 - 2 ^ t * (2 * q + 1)) = 2 ^ t := by
 have hp : 0 < 2 ^ t := Nat.two_pow_pos t
 have hm : 2 ^ t * (2 * q + 1) = 2 ^ t * (2 * q) + 2 ^ t := by rw [Nat.mul_add, Nat.mul_one]
 have hd : 2 ^ t * (2 * q + 1) = 2 ^ t * (2 * q) + (2 ^ t - 1) + 1 := by omega
 apply Nat.eq_of_testBit_eq
 intro i
 rw [Nat.testBit_and]
 have e2 : (2 ^ 16 - 2 ^ t * (2 * q + 1)).testBit i = (decide (i < 16) && !(2 ^ t * (2 * q) + (2 ^ t - 1)).testBit i) := by
  conv => lhs; rw [hd]
  exact Nat.testBit_two_pow_sub_succ (by omega) i
 rw [e2, Nat.testBit_two_pow_mul_add _ (by omega : 2 ^ t - 1 < 2 ^ t), Nat.testBit_two_pow_sub_one, Nat.testBit_two_pow]
 rw [Nat.testBit_two_pow_mul]
 by_cases c1 : i < t
 ·rw [if_pos c1]
  simp [c1, show ¬ t = i by omega, show ¬ t ≤ i by omega]
 ·rw [if_neg c1]
  by_cases c2 : t = i
  ·subst c2
   have ht : t < 16 := by
    rcases Nat.lt_or_ge t 16 with c | c
    ·exact c
    ·have := Nat.pow_le_pow_right (show 0 < 2 by omega) c
     have : 2 ^ t ≤ 2 ^ t * (2 * q + 1) := Nat.le_mul_of_pos_right _ (by omega)
     omega
   simp [ht]
  ·have h3 : t ≤ i := by omega
   obtain ⟨d, rfl⟩ : ∃ d, i = t + 1 + d := ⟨i - t - 1, by omega⟩
   have e3 : t + 1 + d - t = d + 1 := by omega
   rw [e3]
   have a1 : (2 * q + 1).testBit (d + 1) = q.testBit d := by rw [Nat.testBit_succ, show (2 * q + 1) / 2 = q by omega]
   have a2 : (2 * q).testBit (d + 1) = q.testBit d := by rw [Nat.testBit_succ, show 2 * q / 2 = q by omega]
   rw [a1, a2, decide_eq_false (show ¬ t = t + 1 + d by omega)]
   cases q.testBit d <;> simp
theorem tz_wraps (n : Int) (h₀ : 0 ≤ n) (h₁ : n < 2 ^ 16) : IntKind.u16.wrap n = n := by
 simp only [IntKind.wrap, IntKind.signed, IntKind.bits]
 simp
 omega
theorem tz_place : ∀ t : Fin 16, ((((2 ^ t.val : Nat) : Int) % 4294967296 * 125613361 % 4294967296 / 134217728).toNat < 32) ∧ debL.getD (((2 ^ t.val : Nat) : Int) % 4294967296 * 125613361 % 4294967296 / 134217728).toNat 0 = (t.val : Int) := by decide +kernel
theorem tz_and {a0 : Int} (h0 : 0 ≤ a0) (h1 : a0 < 65536) (hn : ¬ a0 = 0) : ∃ t, t < 16 ∧ tz 16 a0.toNat = t ∧ Go.bits .and .u16 a0 (IntKind.u16.wrap (-a0)) = ((2 ^ t : Nat) : Int) := by
 obtain ⟨m, rfl⟩ := Int.eq_ofNat_of_zero_le h0
 obtain ⟨t, q, ht, e1, e2⟩ := tz_bit 16 m (by omega) (by omega)
 refine ⟨t, ht, by rw [Int.toNat_natCast]; exact e1, ?_⟩
 have hw : IntKind.u16.wrap (-(m : Int)) = ((2 ^ 16 - m : Nat) : Int) := by
  simp only [IntKind.wrap, IntKind.signed, IntKind.bits]
  simp
  omega
 rw [hw, (bits_nat .u16 16 (by decide) tz_wraps m (2 ^ 16 - m) (by omega) (by omega)).1]
 congr 1
 rw [e2]
 exact low_bit (by omega)
theorem tz_cell {w : World} (hG : Tab w) {a0 : Int} (h0 : 0 ≤ a0) (h1 : a0 < 65536) (hn : ¬ a0 = 0) : w.cell? ⟨0, (Go.bits .and .u16 a0 (IntKind.u16.wrap (-a0)) % 4294967296 * 125613361 % 4294967296 / 134217728).toNat, none⟩ = some (.int .u8 ((tz 16 a0.toNat : Nat) : Int)) := by
 obtain ⟨t, ht, e1, e2⟩ := tz_and h0 h1 hn
 obtain ⟨p1, p2⟩ := tz_place ⟨t, ht⟩
 rw [e2, e1, hG _ p1]
 exact congrArg (fun z => some (Value.int .u8 z)) p2
set_option maxHeartbeats 8000000 in
set_option maxRecDepth 100000 in
theorem bits_TrailingZeros16.calls (a0 : Int) (r : Int) (w : World) (hG : Tab w) (h : bits_TrailingZeros16.f a0 = some r) :
  Calls Tryd.prog 34 #[.int .u16 a0] w fun e w' => e = .returned (.int .i64 r) ∧ Drawn0 w w' := by
 unfold bits_TrailingZeros16.f at h
 by_cases hb : 0 ≤ a0 ∧ a0 < 65536
 ·rw [if_pos hb] at h
  by_cases h0 : a0 = 0
  ·rw [if_pos h0] at h
   obtain rfl := Option.some.inj h
   subst h0
   clear h hb
   have HG := Aside0.mk hG
   clear hG
   go_enter Tryd.func34, Tryd.ntmps34
   go_wp2
   go_ret
   exact ⟨rfl, Drawn0.refl _⟩
  ·rw [if_neg h0] at h
   obtain rfl := Option.some.inj h
   clear h
   have hcell := tz_cell hG hb.1 hb.2 h0
   have hne : (a0 == 0) = false := by simpa using h0
   have htz : wrap64 ((tz 16 a0.toNat : Nat) : Int) = ((tz 16 a0.toNat : Nat) : Int) := by
    obtain ⟨t, ht, e1, _⟩ := tz_and hb.1 hb.2 h0
    rw [e1]; unfold wrap64; omega
   clear hb h0
   have HG := Aside0.mk hG
   clear hG
   go_enter Tryd.func34, Tryd.ntmps34
   go_wp2
   go_ret
   exact ⟨by show Ending.returned (Value.int .i64 (wrap64 ((tz 16 a0.toNat : Nat) : Int))) = _; rw [htz], Drawn0.refl _⟩
 ·rw [if_neg hb] at h; cases h

end Go.Proofs.YtbamgkgcoedliaaDoor.Q
namespace Go.Proofs.YtbamgkgcoedliaaDoor.Q
open Go.RowKit Go.Proofs.YtbamgkgcoedliaaDoorW.PrintWords Go.Proofs.YtbamgkgcoedliaaDoorW.PrintLast Go.Proofs.YtbamgkgcoedliaaDoorW.PrintMore
attribute [local go_sem] max2_int min2_int max_two min_two max_three min_three max_four min_four   -- for this text's walks alone
set_option linter.unusedVariables false
set_option linter.unusedSimpArgs false

/-! ### impl_listed: function 28 -/
def impl_listed.l0 : Nat → Int → List Int → Option (List Int)
 | 0, _, _ => none
 | k + 1, x0, x3 => if x0 > 0 then ((bits_TrailingZeros16.f x0).bind fun t256 => (if x3.length < 17592186044416 then (impl_listed.l0 k (Go.bits .and .u16 x0 (IntKind.u16.wrap (x0 - 1))) (x3 ++ [t256])) else (none))) else (some x3)
def impl_listed.f (k : Nat) (a0 : Int) : Option (List Int) := impl_listed.l0 k a0 (([] : List Int))
theorem impl_listed.mono_l : ∀ k, (∀ y0 y1, LeO (impl_listed.l0 k y0 y1) (impl_listed.l0 (k + 1) y0 y1))
 | 0 => fun _ _ r h => by simp [impl_listed.l0] at h
 | k + 1 => by
  have ih0 := impl_listed.mono_l k
  ·intro y0 y1
   unfold impl_listed.l0
   repeat' first
   | (with_reducible exact ih0 _ _)
   | (with_reducible exact LeO.refl _)
   | (with_reducible exact LeO.none _)
   | (with_reducible refine LeO.ite ?_ ?_)
   | (with_reducible refine LeO.bind ?_ (fun _ => ?_))
   | exact ih0 _ _
   | exact LeO.none _
   | refine LeO.ite ?_ ?_
   | refine LeO.bind ?_ (fun _ => ?_)
theorem impl_listed.mono : ∀ a0 k, LeO (impl_listed.f k a0) (impl_listed.f (k + 1) a0) := by
 intro a0 k
 have ih0 := impl_listed.mono_l k
 unfold impl_listed.f
 repeat' first
   | (with_reducible exact ih0 _ _)
   | (with_reducible exact LeO.refl _)
   | (with_reducible exact LeO.none _)
   | (with_reducible refine LeO.ite ?_ ?_)
   | (with_reducible refine LeO.bind ?_ (fun _ => ?_))
   | exact ih0 _ _
   | exact LeO.none _
   | refine LeO.ite ?_ ?_
   | refine LeO.bind ?_ (fun _ => ?_)
set_option maxHeartbeats 8000000 in
set_option maxRecDepth 100000 in
theorem impl_listed.calls (k : Nat) (a0 : Int) (r : List Int) (w : World) (hG : Tab w) (h : impl_listed.f k a0 = some r) :
  Calls Tryd.prog 28 #[.int .u16 a0] w fun e w' => ∃ v0_ : Value, e = .returned (v0_) ∧ Kd.R (Kd.int .i64) 3 w' w.heap.size (fun _ => True) v0_ r ∧ Below w.heap.size w w' := by
 have HG := Aside0.mk hG
 clear hG
 have HB := Aside0.mk (Below.refl w.heap.size w)
 have H : (impl_listed.l0 k a0 (([] : List Int))) = some r := h
 clear h
 obtain ⟨y253, hy253⟩ : ∃ y_ : List Int, y_ = (([] : List Int)) := ⟨_, rfl⟩
 replace H : (impl_listed.l0 k a0 y253) = some r := by first | (rw [hy253]; with_reducible exact H) | (have H2_ := (Option.bind_some _ _).symm.trans H; rw [hy253]; with_reducible exact H2_) | (have H2_ := (Option.bind_some _ _).symm.trans H; with_reducible exact H2_) | with_reducible exact H | (rw [hy253]; exact H) | exact H
 have Ny253 := Aside0.mk hy253
 clear hy253
 have H' := Aside0.mk H
 clear H
 go_enter Tryd.func28, Tryd.ntmps28
 go_wp2_with (first | ((with_reducible refine gate_dst (N := 4) rfl ?_); refine Kd.R_lit (Kd.int .i64) _ 3 ?hg (N := 4) ?hd (xs := ([] : List Int)) (inner := []) (ok := fun _ => True) (okp := fun _ => True) ?hr ?hp (fun _ hk => hk) trivial (Below.refl _ _) (Nat.le_refl _) (by simp) ?_; (case hd => rfl); (case hg => rfl); (case hr => first | (go_simp; done) | (go_simp; rfl)); (case hp => exact (Reps.none _ _)); intro v254 w2 ho3 hb hg_ hnew_; clear hg_ hnew_; (first | rw [← Ny253.out] at ho3 | (simp only [Int.reduceToNat] at ho3; rw [← Ny253.out] at ho3)); have n0_ := Aside0.mk (Kd.R_lower ho3 (qap hB_)); have n1_ := Aside0.mk (qao hB_ hb); clear HB; have HO255 := n0_; have HB := n1_; clear n0_ n1_; clear hb ho3))
 go_loopg [0, 3] k (fun kq v0 v3 w' => ∃ (x0_1 : Int) (x3_1 : List Int), v0 = .int .u16 x0_1 ∧ Aside0 (impl_listed.l0 kq x0_1 x3_1 = some r) ∧ Aside0 (kq ≤ k) ∧ Aside0 (Kd.R (Kd.int .i64) 3 w' w.heap.size (fun _ => True) v3 x3_1) ∧ Aside0 (Below w.heap.size w w'))
 case atStart => exact ⟨(a0), (y253), rS_, H', ⟨Nat.le_refl _⟩, ⟨by (with_reducible repeat (first | apply Kd.R_alloc | apply Kd.R_drewN | apply Kd.R_drew)); exact HO255.out⟩, ⟨by repeat (first | (with_reducible first | exact HB.out | apply qal | apply qac | apply qaf) | exact HB.out)⟩⟩
 case round =>
  clear H'
  obtain ⟨x0_1, x3_1, rfl, HA, HK1, HO_3, HB⟩ := hrel
  cases gk with
  | zero => exact absurd HA.out (by simp [impl_listed.l0])
  | succ k1 =>
   have H := HA.out
   clear HA
   simp only [impl_listed.l0] at H
   by_cases c4 : x0_1 > 0
   ·rw [if_pos c4] at H
    have c4b0 : decide (0 < x0_1) = true := decide_eq_true c4
    clear c4
    replace H := Option.bind_eq_some_iff.mp H
    obtain ⟨t256, A50, H⟩ := H
    replace H : (if x3_1.length < 17592186044416 then (impl_listed.l0 k1 (Go.bits .and .u16 x0_1 (IntKind.u16.wrap (x0_1 - 1))) (x3_1 ++ [t256])) else (none)) = some r := H
    have A5 := Aside0.mk A50
    clear A50
    by_cases c6 : x3_1.length < 17592186044416
    ·rw [if_pos c6] at H
     have LMc6 := Aside0.mk c6
     clear c6
     obtain ⟨y257, hy257⟩ : ∃ y_ : List Int, y_ = (x3_1 ++ [t256]) := ⟨_, rfl⟩
     replace H : (impl_listed.l0 k1 (Go.bits .and .u16 x0_1 (IntKind.u16.wrap (x0_1 - 1))) y257) = some r := by first | (rw [hy257]; with_reducible exact H) | (have H2_ := (Option.bind_some _ _).symm.trans H; rw [hy257]; with_reducible exact H2_) | (have H2_ := (Option.bind_some _ _).symm.trans H; with_reducible exact H2_) | with_reducible exact H | (rw [hy257]; exact H) | exact H
     have Ny257 := Aside0.mk hy257
     clear hy257
     have H' := Aside0.mk H
     clear H
     go_wp2_with (first | ((with_reducible refine gate_callee (f := 34) rfl ?_); refine goesL_ (some 13) rfl rfl Tryd.func34 (by kernel_rfl) rfl #[.int .u16 x0_1] rfl mT_ ?_; (with_reducible refine (bits_TrailingZeros16.calls x0_1 t256 _ ?sideG A5.out).mono ?_); (case sideG => first | exact HG.out | exact Tab.below HG.out hB_); rintro e w' ⟨rfl, ⟨nd, rfl⟩⟩; refine ⟨_, rfl, ?_⟩) | ((with_reducible refine gate_builtin (b := .append) (xs := #[.tmp 11, .tmp 14]) rfl ?_); at_builtin; refine Kd.R_append (Kd.int .i64) (w0 := w) w.heap.size rfl (.tmp 11) (.tmp 14) 41 3 (.int .i64 0) 8 rfl Tryd.underlying41 info3 rfl (by decide) (by omega) u3 x3_1 t256 [.int .i64 t256] (fun _ => True) (fun _ => False) rfl rfl ?aP (fun _ hk => hk.elim) ?aF ?aO ?aB ?aS ?aL ?_; (case aP => exact rfl); (case aB => exact hB_); (case aF => exact (fun _ _ => trivial)); (case aO => exact (uR_ HO_3.out)); (case aS => exact (qap hB_)); (case aL => have := LMc6.out; omega); intro v258 w7 ho hb hg hat; rw [← Ny257.out] at ho; have n0_ := Aside0.mk (hb); have n1_ := Aside0.mk (ho); clear HB; clear HO_3; have HB := n0_; have HO259 := n1_; clear n0_ n1_; clear ho hb hg hat))
     go_roundg k1
     case measure => have := HK1.out; omega
     case rel => exact ⟨(Go.bits .and .u16 x0_1 (IntKind.u16.wrap (x0_1 - 1))), (y257), rS_, H', ⟨by have := HK1.out; omega⟩, ⟨by (with_reducible repeat (first | apply Kd.R_alloc | apply Kd.R_drewN | apply Kd.R_drew)); exact HO259.out⟩, ⟨by repeat (first | (with_reducible first | exact HB.out | apply qal | apply qac | apply qaf) | exact HB.out)⟩⟩
    ·rw [if_neg c6] at H
     exact absurd H (by simp)
   ·rw [if_neg c4] at H
    have c4b0 : decide (0 < x0_1) = false := decide_eq_false c4
    clear c4
    obtain rfl := Option.some.inj H
    go_wp2
    go_ret
    exact ⟨_, by first | rfl | (simp [errW_none, errW_some] <;> rfl) | (simp [*, errW_none, errW_some] <;> rfl), by (with_reducible repeat (first | apply Kd.R_alloc | apply Kd.R_drewN | apply Kd.R_drew)); exact HO_3.out, by repeat (first | (with_reducible first | exact HB.out | apply qal | apply qac | apply qaf) | exact HB.out)⟩

end Go.Proofs.YtbamgkgcoedliaaDoor.Q
