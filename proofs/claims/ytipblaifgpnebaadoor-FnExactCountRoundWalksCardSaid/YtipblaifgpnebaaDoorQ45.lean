import Derived.Test.YtipblaifgpnebaaDoorQ0
namespace Go.Proofs.YtipblaifgpnebaaDoor.Q
open Go.RowKit Go.Proofs.YtipblaifgpnebaaDoorW.PrintWords Go.Proofs.YtipblaifgpnebaaDoorW.PrintLast Go.Proofs.YtipblaifgpnebaaDoorW.PrintMore
attribute [local go_sem] max2_int min2_int max_two min_two max_three min_three max_four min_four   -- for this text's walks alone
set_option linter.unusedVariables false
set_option linter.unusedSimpArgs false

/-! ### bits_TrailingZeros16: function 61 (proved by hand) -/
/-- The library's table, as the program's text lays it. -/
def debL : List Int := [0, 1, 28, 2, 29, 14, 24, 3, 30, 22, 20, 15, 25, 17, 4, 8, 31, 27, 13, 23, 21, 19, 16, 7, 26, 12, 18, 6, 11, 5, 10, 9]
/-- The table lies in memory. -/
def Tab (w : World) : Prop := ∀ i, i < 32 → w.cell? ⟨0, i, none⟩ = some (.int .u8 (debL.getD i 0))
theorem Tab.below {w W : World} (h : Tab w) (hb : Below w.heap.size w W) : Tab W := fun i hi => (hb.cell (World.block_lt_of_cell? w _ (h i hi))).trans (h i hi)
/-- The place of the lowest bit. -/
def tz : Nat → Nat → Nat
 | 0, _ => 0
 | k + 1, m => if m % 2 = 1 then 0 else tz k (m / 2) + 1
/-- How many zeros stand behind the lowest one. -/
def bits_TrailingZeros16.f (a0 : Int) : Option (Int) := if 0 ≤ a0 ∧ a0 < 65536 then (if a0 = 0 then some 16 else some ((tz 16 a0.toNat : Nat) : Int)) else none
theorem tz_bit : ∀ (k m : Nat), 0 < m → m < 2 ^ k → ∃ t q, t < k ∧ tz k m = t ∧ m = 2 ^ t * (2 * q + 1)
 | 0, m, h0, h => by simp at h; omega
 | k + 1, m, h0, h => by
  unfold tz
  by_cases c : m % 2 = 1
  ·rw [if_pos c]
   exact ⟨0, m / 2, by omega, rfl, by omega⟩
  ·rw [if_neg c]
   obtain ⟨t, q, h1, h2, h3⟩ := tz_bit k (m / 2) (by omega) (by rw [Nat.pow_succ] at h; omega)
   refine ⟨t + 1, q, by omega, by rw [h2], ?_⟩
   have : m = 2 * (m / 2) := by omega
   rw [this, h3, Nat.pow_succ]
   rw [Nat.mul_comm (2 ^ t) 2, Nat.mul_assoc]
theorem low_bit {t q : Nat} (h : 2 ^ t * (2 * q + 1) < 2 ^ 16) : (2 ^ t * (2 * q + 1)) &&& (2 ^ 16 - 2 ^ t * (2 * q + 1)) = 2 ^ t := by
 have hp : 0 < 2 ^ t := Nat.two_pow_pos t
 have hm : 2 ^ t * (2 * q + 1) = 2 ^ t * (2 * q) + 2 ^ t := by rw [Nat.mul_add, Nat.mul_one]
 have hd : 2 ^ t * (2 * q + 1) = 2 ^ t * (2 * q) + (2 ^ t - 1) + 1 := by omega
 apply Nat.eq_of_testBit_eq
 intro i
 rw [Nat.testBit_and]
 have e2 : (2 ^ 16 - 2 ^ t * (2 * q + 1)).testBit i = (decide (i < 16) && !(2 ^ t * (2 * q) + (2 ^ t - 1)).testBit i) := by
  conv => lhs; rw [hd]
  exact Nat.testBit_two_pow_sub_succ (by omega) i
 rw [e2, Nat.testBit_two_pow_mul_add _ (by omega : 2 ^ t - 1 < 2 ^ t), Nat.testBit_two_pow_sub_one, Nat.testBit_two_pow]
 rw [Nat.testBit_two_pow_mul]
 by_cases c1 : i < t
 ·rw [if_pos c1]
  simp [c1, show ¬ t = i by omega, show ¬ t ≤ i by omega]
 ·rw [if_neg c1]
  by_cases c2 : t = i
  ·subst c2
   have ht : t < 16 := by
    rcases Nat.lt_or_ge t 16 with c | c
    ·exact c
    ·have := Nat.pow_le_pow_right (show 0 < 2 by omega) c
     have : 2 ^ t ≤ 2 ^ t * (2 * q + 1) := Nat.le_mul_of_pos_right _ (by omega)
     omega
   simp [ht]
  ·have h3 : t ≤ i := by omega
   obtain ⟨d, rfl⟩ : ∃ d, i = t + 1 + d := ⟨i - t - 1, by omega⟩
   have e3 : t + 1 + d - t = d + 1 := by omega
   rw [e3]
   have a1 : (2 * q + 1).testBit (d + 1) = q.testBit d := by rw [Nat.testBit_succ, show (2 * q + 1) / 2 = q by omega]
   have a2 : (2 * q).testBit (d + 1) = q.testBit d := by rw [Nat.testBit_succ, show 2 * q / 2 = q by omega]
   rw [a1, a2, decide_eq_false (show ¬ t = t + 1 + d by omega)]
   cases q.testBit d <;> simp
theorem tz_wraps (n : Int) (h₀ : 0 ≤ n) (h₁ : n < 2 ^ 16) : IntKind.u16.wrap n = n := by
 simp only [IntKind.wrap, IntKind.signed, IntKind.bits]
 simp
 omega
theorem tz_place : ∀ t : Fin 16, ((((2 ^ t.val : Nat) : Int) % 4294967296 * 125613361 % 4294967296 / 134217728).toNat < 32) ∧ debL.getD (((2 ^ t.val : Nat) : Int) % 4294967296 * 125613361 % 4294967296 / 134217728).toNat 0 = (t.val : Int) := by decide +kernel
theorem tz_and {a0 : Int} (h0 : 0 ≤ a0) (h1 : a0 < 65536) (hn : ¬ a0 = 0) : ∃ t, t < 16 ∧ tz 16 a0.toNat = t ∧ Go.bits .and .u16 a0 (IntKind.u16.wrap (-a0)) = ((2 ^ t : Nat) : Int) := by
 obtain ⟨m, rfl⟩ := Int.eq_ofNat_of_zero_le h0
 obtain ⟨t, q, ht, e1, e2⟩ := tz_bit 16 m (by omega) (by omega)
 refine ⟨t, ht, by rw [Int.toNat_natCast]; exact e1, ?_⟩
 have hw : IntKind.u16.wrap (-(m : Int)) = ((2 ^ 16 - m : Nat) : Int) := by
  simp only [IntKind.wrap, IntKind.signed, IntKind.bits]
  simp
  omega
 rw [hw, (bits_nat .u16 16 (by decide) tz_wraps m (2 ^ 16 - m) (by omega) (by omega)).1]
 congr 1
 rw [e2]
 exact low_bit (by omega)
theorem tz_cell {w : World} (hG : Tab w) {a0 : Int} (h0 : 0 ≤ a0) (h1 : a0 < 65536) (hn : ¬ a0 = 0) : w.cell? ⟨0, (Go.bits .and .u16 a0 (IntKind.u16.wrap (-a0)) % 4294967296 * 125613361 % 4294967296 / 134217728).toNat, none⟩ = some (.int .u8 ((tz 16 a0.toNat : Nat) : Int)) := by
 obtain ⟨t, ht, e1, e2⟩ := tz_and h0 h1 hn
 obtain ⟨p1, p2⟩ := tz_place ⟨t, ht⟩
 rw [e2, e1, hG _ p1]
 exact congrArg (fun z => some (Value.int .u8 z)) p2
set_option maxHeartbeats 8000000 in
set_option maxRecDepth 100000 in
theorem bits_TrailingZeros16.calls (a0 : Int) (r : Int) (w : World) (hG : Tab w) (h : bits_TrailingZeros16.f a0 = some r) :
  Calls Tryd.prog 61 #[.int .u16 a0] w fun e w' => e = .returned (.int .i64 r) ∧ Drawn0 w w' := by
 unfold bits_TrailingZeros16.f at h
 by_cases hb : 0 ≤ a0 ∧ a0 < 65536
 ·rw [if_pos hb] at h
  by_cases h0 : a0 = 0
  ·rw [if_pos h0] at h
   obtain rfl := Option.some.inj h
   subst h0
   clear h hb
   have HG := Aside0.mk hG
   clear hG
   go_enter Tryd.func61, Tryd.ntmps61
   go_wp2
   go_ret
   exact ⟨rfl, Drawn0.refl _⟩
  ·rw [if_neg h0] at h
   obtain rfl := Option.some.inj h
   clear h
   have hcell := tz_cell hG hb.1 hb.2 h0
   have hne : (a0 == 0) = false := by simpa using h0
   have htz : wrap64 ((tz 16 a0.toNat : Nat) : Int) = ((tz 16 a0.toNat : Nat) : Int) := by
    obtain ⟨t, ht, e1, _⟩ := tz_and hb.1 hb.2 h0
    rw [e1]; unfold wrap64; omega
   clear hb h0
   have HG := Aside0.mk hG
   clear hG
   go_enter Tryd.func61, Tryd.ntmps61
   go_wp2
   go_ret
   exact ⟨by show Ending.returned (Value.int .i64 (wrap64 ((tz 16 a0.toNat : Nat) : Int))) = _; rw [htz], Drawn0.refl _⟩
 ·rw [if_neg hb] at h; cases h

end Go.Proofs.YtipblaifgpnebaaDoor.Q
namespace Go.Proofs.YtipblaifgpnebaaDoor.Q
open Go.RowKit Go.Proofs.YtipblaifgpnebaaDoorW.PrintWords Go.Proofs.YtipblaifgpnebaaDoorW.PrintLast Go.Proofs.YtipblaifgpnebaaDoorW.PrintMore
attribute [local go_sem] max2_int min2_int max_two min_two max_three min_three max_four min_four   -- for this text's walks alone
set_option linter.unusedVariables false
set_option linter.unusedSimpArgs false

/-! ### impl_listed: function 33 -/
def impl_listed.l0 : Nat → Int → List Int → Option (List Int)
 | 0, _, _ => none
 | k + 1, x0, x3 => if x0 > 0 then ((bits_TrailingZeros16.f x0).bind fun t196 => (if x3.length < 17592186044416 then (impl_listed.l0 k (Go.bits .and .u16 x0 (IntKind.u16.wrap (x0 - 1))) (x3 ++ [t196])) else (none))) else (some x3)
def impl_listed.f (k : Nat) (a0 : Int) : Option (List Int) := impl_listed.l0 k a0 (([] : List Int))
theorem impl_listed.mono_l : ∀ k, (∀ y0 y1, LeO (impl_listed.l0 k y0 y1) (impl_listed.l0 (k + 1) y0 y1))
 | 0 => fun _ _ r h => by simp [impl_listed.l0] at h
 | k + 1 => by
  have ih0 := impl_listed.mono_l k
  ·intro y0 y1
   unfold impl_listed.l0
   repeat' first
   | (with_reducible exact ih0 _ _)
   | (with_reducible exact LeO.refl _)
   | (with_reducible exact LeO.none _)
   | (with_reducible refine LeO.ite ?_ ?_)
   | (with_reducible refine LeO.bind ?_ (fun _ => ?_))
   | exact ih0 _ _
   | exact LeO.none _
   | refine LeO.ite ?_ ?_
   | refine LeO.bind ?_ (fun _ => ?_)
theorem impl_listed.mono : ∀ a0 k, LeO (impl_listed.f k a0) (impl_listed.f (k + 1) a0) := by
 intro a0 k
 have ih0 := impl_listed.mono_l k
 unfold impl_listed.f
 repeat' first
   | (with_reducible exact ih0 _ _)
   | (with_reducible exact LeO.refl _)
   | (with_reducible exact LeO.none _)
   | (with_reducible refine LeO.ite ?_ ?_)
   | (with_reducible refine LeO.bind ?_ (fun _ => ?_))
   | exact ih0 _ _
   | exact LeO.none _
   | refine LeO.ite ?_ ?_
   | refine LeO.bind ?_ (fun _ => ?_)
set_option maxHeartbeats 8000000 in
set_option maxRecDepth 100000 in
theorem impl_listed.calls (k : Nat) (a0 : Int) (r : List Int) (w : World) (hG : Tab w) (h : impl_listed.f k a0 = some r) :
  Calls Tryd.prog 33 #[.int .u16 a0] w fun e w' => ∃ v0_ : Value, e = .returned (v0_) ∧ Kd.R (Kd.int .i64) 3 w' w.heap.size (fun _ => True) v0_ r ∧ Below w.heap.size w w' := by
 have HG := Aside0.mk hG
 clear hG
 have HB := Aside0.mk (Below.refl w.heap.size w)
 have H : (impl_listed.l0 k a0 (([] : List Int))) = some r := h
 clear h
 obtain ⟨y193, hy193⟩ : ∃ y_ : List Int, y_ = (([] : List Int)) := ⟨_, rfl⟩
 replace H : (impl_listed.l0 k a0 y193) = some r := by first | (rw [hy193]; with_reducible exact H) | (have H2_ := (Option.bind_some _ _).symm.trans H; rw [hy193]; with_reducible exact H2_) | (have H2_ := (Option.bind_some _ _).symm.trans H; with_reducible exact H2_) | with_reducible exact H | (rw [hy193]; exact H) | exact H
 have Ny193 := Aside0.mk hy193
 clear hy193
 have H' := Aside0.mk H
 clear H
 go_enter Tryd.func33, Tryd.ntmps33
 go_wp2_with (first | ((with_reducible refine gate_dst (N := 4) rfl ?_); refine Kd.R_lit (Kd.int .i64) _ 3 ?hg (N := 4) ?hd (xs := ([] : List Int)) (inner := []) (ok := fun _ => True) (okp := fun _ => True) ?hr ?hp (fun _ hk => hk) trivial (Below.refl _ _) (Nat.le_refl _) (by simp) ?_; (case hd => rfl); (case hg => rfl); (case hr => first | (go_simp; done) | (go_simp; rfl)); (case hp => exact (Reps.none _ _)); intro v194 w2 ho3 hb hg_ hnew_; clear hg_ hnew_; (first | rw [← Ny193.out] at ho3 | (simp only [Int.reduceToNat] at ho3; rw [← Ny193.out] at ho3)); have n0_ := Aside0.mk (Kd.R_lower ho3 (below_size (by repeat (first | (with_reducible first | exact HB.out | apply below_alloc | apply pw_below_drewN | apply below_drew1) | exact HB.out)))); have n1_ := Aside0.mk (below_step (by repeat (first | (with_reducible first | exact HB.out | apply below_alloc | apply pw_below_drewN | apply below_drew1) | exact HB.out)) hb); clear HB; have HO195 := n0_; have HB := n1_; clear n0_ n1_; clear hb ho3))
 go_loopg [0, 3] k (fun kq v0 v3 w' => ∃ (x0_1 : Int) (x3_1 : List Int), v0 = .int .u16 x0_1 ∧ Aside0 (impl_listed.l0 kq x0_1 x3_1 = some r) ∧ Aside0 (kq ≤ k) ∧ Aside0 (Kd.R (Kd.int .i64) 3 w' w.heap.size (fun _ => True) v3 x3_1) ∧ Aside0 (Below w.heap.size w w'))
 case atStart => exact ⟨(a0), (y193), (by first | rfl | (simp; done) | (simp [*]; done)), H', ⟨Nat.le_refl _⟩, ⟨by (with_reducible repeat (first | apply Kd.R_alloc | apply Kd.R_drewN | apply Kd.R_drew)); exact HO195.out⟩, ⟨by repeat (first | (with_reducible first | exact HB.out | apply below_alloc | apply pw_below_drewN | apply below_drew1) | exact HB.out)⟩⟩
 case round =>
  clear H'
  try clear p2
  try clear c3
  obtain ⟨x0_1, x3_1, rfl, HA, HK1, HO_3, HB⟩ := hrel
  cases gk with
  | zero => exact absurd HA.out (by simp [impl_listed.l0])
  | succ k1 =>
   have H := HA.out
   clear HA
   simp only [impl_listed.l0] at H
   by_cases c4 : x0_1 > 0
   ·rw [if_pos c4] at H
    have c4b0 : decide (0 < x0_1) = true := decide_eq_true c4
    clear c4
    replace H := Option.bind_eq_some_iff.mp H
    obtain ⟨t196, A50, H⟩ := H
    replace H : (if x3_1.length < 17592186044416 then (impl_listed.l0 k1 (Go.bits .and .u16 x0_1 (IntKind.u16.wrap (x0_1 - 1))) (x3_1 ++ [t196])) else (none)) = some r := H
    have A5 := Aside0.mk A50
    clear A50
    by_cases c6 : x3_1.length < 17592186044416
    ·rw [if_pos c6] at H
     have LMc6 := Aside0.mk c6
     clear c6
     obtain ⟨y197, hy197⟩ : ∃ y_ : List Int, y_ = (x3_1 ++ [t196]) := ⟨_, rfl⟩
     replace H : (impl_listed.l0 k1 (Go.bits .and .u16 x0_1 (IntKind.u16.wrap (x0_1 - 1))) y197) = some r := by first | (rw [hy197]; with_reducible exact H) | (have H2_ := (Option.bind_some _ _).symm.trans H; rw [hy197]; with_reducible exact H2_) | (have H2_ := (Option.bind_some _ _).symm.trans H; with_reducible exact H2_) | with_reducible exact H | (rw [hy197]; exact H) | exact H
     have Ny197 := Aside0.mk hy197
     clear hy197
     have H' := Aside0.mk H
     clear H
     go_wp2_with (first | ((with_reducible refine gate_callee (f := 61) rfl ?_); refine goesL_ (some 13) rfl rfl Tryd.func61 (by kernel_rfl) rfl #[.int .u16 x0_1] rfl (by (try simp only [List.map_toArray, List.map_cons, List.map_nil]); first | done | rfl | (simp only [List.length_drop, List.length_take]; rfl)) ?_; (with_reducible refine (bits_TrailingZeros16.calls x0_1 t196 _ ?sideG A5.out).mono ?_); (case sideG => first | exact HG.out | exact Tab.below HG.out (by repeat (first | (with_reducible first | exact HB.out | apply below_alloc | apply pw_below_drewN | apply below_drew1) | exact HB.out))); rintro e w' ⟨rfl, ⟨nd, rfl⟩⟩; refine ⟨_, rfl, ?_⟩) | ((with_reducible refine gate_builtin (b := .append) (xs := #[.tmp 11, .tmp 14]) rfl ?_); at_builtin; refine Kd.R_append (Kd.int .i64) (w0 := w) w.heap.size rfl (.tmp 11) (.tmp 14) 44 3 (.int .i64 0) 8 rfl Tryd.underlying44 info3 rfl (by decide) (by omega) u3 x3_1 t196 [.int .i64 t196] (fun _ => True) (fun _ => False) rfl rfl ?aP (fun _ hk => hk.elim) ?aF ?aO ?aB ?aS ?aL ?_; (case aP => exact rfl); (case aB => exact (by repeat (first | (with_reducible first | exact HB.out | apply below_alloc | apply pw_below_drewN | apply below_drew1) | exact HB.out))); (case aF => exact (fun _ _ => trivial)); (case aO => exact (by (with_reducible repeat (first | apply Kd.R_alloc | apply Kd.R_drewN | apply Kd.R_drew)); exact HO_3.out)); (case aS => exact (below_size (by repeat (first | (with_reducible first | exact HB.out | apply below_alloc | apply pw_below_drewN | apply below_drew1) | exact HB.out)))); (case aL => have := LMc6.out; omega); intro v198 w7 ho hb hg hat; rw [← Ny197.out] at ho; have n0_ := Aside0.mk (hb); have n1_ := Aside0.mk (ho); clear HB; clear HO_3; have HB := n0_; have HO199 := n1_; clear n0_ n1_; clear ho hb hg hat))
     go_roundg k1
     case measure => have := HK1.out; omega
     case rel => exact ⟨(Go.bits .and .u16 x0_1 (IntKind.u16.wrap (x0_1 - 1))), (y197), (by first | rfl | (simp; done) | (simp [*]; done)), H', ⟨by have := HK1.out; omega⟩, ⟨by (with_reducible repeat (first | apply Kd.R_alloc | apply Kd.R_drewN | apply Kd.R_drew)); exact HO199.out⟩, ⟨by repeat (first | (with_reducible first | exact HB.out | apply below_alloc | apply pw_below_drewN | apply below_drew1) | exact HB.out)⟩⟩
    ·rw [if_neg c6] at H
     exact absurd H (by simp)
   ·rw [if_neg c4] at H
    have c4b0 : decide (0 < x0_1) = false := decide_eq_false c4
    clear c4
    obtain rfl := Option.some.inj H
    go_wp2
    go_ret
    exact ⟨_, by first | rfl | (simp [errW_none, errW_some] <;> rfl) | (simp [*, errW_none, errW_some] <;> rfl), by (with_reducible repeat (first | apply Kd.R_alloc | apply Kd.R_drewN | apply Kd.R_drew)); exact HO_3.out, by repeat (first | (with_reducible first | exact HB.out | apply below_alloc | apply pw_below_drewN | apply below_drew1) | exact HB.out)⟩

end Go.Proofs.YtipblaifgpnebaaDoor.Q
namespace Go.Proofs.YtipblaifgpnebaaDoor.Q
open Go.RowKit Go.Proofs.YtipblaifgpnebaaDoorW.PrintWords Go.Proofs.YtipblaifgpnebaaDoorW.PrintLast Go.Proofs.YtipblaifgpnebaaDoorW.PrintMore
attribute [local go_sem] max2_int min2_int max_two min_two max_three min_three max_four min_four   -- for this text's walks alone
set_option linter.unusedVariables false
set_option linter.unusedSimpArgs false

/-! ### impl_table_walks: function 45 -/
mutual
def impl_table_walks.l0 : Nat → List Int → List Int → Int → Int → Option (List Int)
 | 0, _, _, _, _ => none
 | k + 1, x0, x7, x19, x20 => if x20 < x19 then (if 0 ≤ (x0.length : Int) then (if ((x0.length : Int) : Int).toNat ≤ 35184372088832 then (impl_table_walks.l1 k x0 (List.replicate ((x0.length : Int) : Int).toNat 0) x19 x20 x7 (x7.length : Int) 0) else (none)) else (none)) else (some x7)
def impl_table_walks.l1 : Nat → List Int → List Int → Int → Int → List Int → Int → Int → Option (List Int)
 | 0, _, _, _, _, _, _, _ => none
 | k + 1, x0, x8, x19, x20, x25, x26, x27 => if x27 < x26 then (if 0 ≤ x27 then (if x27 < (x25.length : Int) then (if x27 < (x0.length : Int) then ((impl_listed.f k (rd x0 x27)).bind fun t328 => (impl_table_walks.l2 k x0 x8 (rd x25 x27) x19 x20 x25 x26 x27 t328 (t328.length : Int) 0)) else (none)) else (none)) else (none)) else (impl_table_walks.l0 k x0 x8 x19 (wrap64 (x20 + 1)))
def impl_table_walks.l2 : Nat → List Int → List Int → Int → Int → Int → List Int → Int → Int → List Int → Int → Int → Option (List Int)
 | 0, _, _, _, _, _, _, _, _, _, _, _ => none
 | k + 1, x0, x8, x10, x19, x20, x25, x26, x27, x36, x37, x38 => if x38 < x37 then (if 0 ≤ x38 then (if x38 < (x36.length : Int) then (if 0 ≤ (rd x36 x38) then (if (rd x36 x38) < (x8.length : Int) then (impl_table_walks.l2 k x0 (x8.set ((rd x36 x38) : Int).toNat (wrap64 ((rd x8 (rd x36 x38)) + x10))) x10 x19 x20 x25 x26 x27 x36 x37 (wrap64 (x38 + 1))) else (none)) else (none)) else (none)) else (none)) else (impl_table_walks.l1 k x0 x8 x19 x20 x25 x26 (wrap64 (x27 + 1)))
end
def impl_table_walks.f (k : Nat) (l0 : List Int) (a1 : Int) (a2 : Int) : Option (List Int) := if 0 ≤ (l0.length : Int) then (if ((l0.length : Int) : Int).toNat ≤ 35184372088832 then ((some (List.replicate ((l0.length : Int) : Int).toNat 0 : List Int)).bind fun y319 => (if 0 ≤ a1 then (if a1 < (y319.length : Int) then (impl_table_walks.l0 k l0 (y319.set (a1 : Int).toNat 1) a2 0) else (none)) else (none))) else (none)) else (none)
theorem impl_table_walks.mono_l : ∀ k, (∀ y0 y1 y2 y3, LeO (impl_table_walks.l0 k y0 y1 y2 y3) (impl_table_walks.l0 (k + 1) y0 y1 y2 y3)) ∧ (∀ y0 y1 y2 y3 y4 y5 y6, LeO (impl_table_walks.l1 k y0 y1 y2 y3 y4 y5 y6) (impl_table_walks.l1 (k + 1) y0 y1 y2 y3 y4 y5 y6)) ∧ (∀ y0 y1 y2 y3 y4 y5 y6 y7 y8 y9 y10, LeO (impl_table_walks.l2 k y0 y1 y2 y3 y4 y5 y6 y7 y8 y9 y10) (impl_table_walks.l2 (k + 1) y0 y1 y2 y3 y4 y5 y6 y7 y8 y9 y10))
 | 0 => ⟨fun _ _ _ _ r h => by simp [impl_table_walks.l0] at h, fun _ _ _ _ _ _ _ r h => by simp [impl_table_walks.l1] at h, fun _ _ _ _ _ _ _ _ _ _ _ r h => by simp [impl_table_walks.l2] at h⟩
 | k + 1 => by
  obtain ⟨ih0, ih1, ih2⟩ := impl_table_walks.mono_l k
  refine ⟨?_, ?_, ?_⟩
  ·intro y0 y1 y2 y3
   unfold impl_table_walks.l0
   repeat' first
   | (with_reducible exact ih0 _ _ _ _)
   | (with_reducible exact ih1 _ _ _ _ _ _ _)
   | (with_reducible exact ih2 _ _ _ _ _ _ _ _ _ _ _)
   | (with_reducible exact impl_listed.mono _ _)
   | (with_reducible exact LeO.refl _)
   | (with_reducible exact LeO.none _)
   | (with_reducible refine LeO.ite ?_ ?_)
   | (with_reducible refine LeO.bind ?_ (fun _ => ?_))
   | exact ih0 _ _ _ _
   | exact ih1 _ _ _ _ _ _ _
   | exact ih2 _ _ _ _ _ _ _ _ _ _ _
   | exact impl_listed.mono _ _
   | exact LeO.none _
   | refine LeO.ite ?_ ?_
   | refine LeO.bind ?_ (fun _ => ?_)
  ·intro y0 y1 y2 y3 y4 y5 y6
   unfold impl_table_walks.l1
   repeat' first
   | (with_reducible exact ih0 _ _ _ _)
   | (with_reducible exact ih1 _ _ _ _ _ _ _)
   | (with_reducible exact ih2 _ _ _ _ _ _ _ _ _ _ _)
   | (with_reducible exact impl_listed.mono _ _)
   | (with_reducible exact LeO.refl _)
   | (with_reducible exact LeO.none _)
   | (with_reducible refine LeO.ite ?_ ?_)
   | (with_reducible refine LeO.bind ?_ (fun _ => ?_))
   | exact ih0 _ _ _ _
   | exact ih1 _ _ _ _ _ _ _
   | exact ih2 _ _ _ _ _ _ _ _ _ _ _
   | exact impl_listed.mono _ _
   | exact LeO.none _
   | refine LeO.ite ?_ ?_
   | refine LeO.bind ?_ (fun _ => ?_)
  ·intro y0 y1 y2 y3 y4 y5 y6 y7 y8 y9 y10
   unfold impl_table_walks.l2
   repeat' first
   | (with_reducible exact ih0 _ _ _ _)
   | (with_reducible exact ih1 _ _ _ _ _ _ _)
   | (with_reducible exact ih2 _ _ _ _ _ _ _ _ _ _ _)
   | (with_reducible exact impl_listed.mono _ _)
   | (with_reducible exact LeO.refl _)
   | (with_reducible exact LeO.none _)
   | (with_reducible refine LeO.ite ?_ ?_)
   | (with_reducible refine LeO.bind ?_ (fun _ => ?_))
   | exact ih0 _ _ _ _
   | exact ih1 _ _ _ _ _ _ _
   | exact ih2 _ _ _ _ _ _ _ _ _ _ _
   | exact impl_listed.mono _ _
   | exact LeO.none _
   | refine LeO.ite ?_ ?_
   | refine LeO.bind ?_ (fun _ => ?_)
theorem impl_table_walks.mono : ∀ a0 a1 a2 k, LeO (impl_table_walks.f k a0 a1 a2) (impl_table_walks.f (k + 1) a0 a1 a2) := by
 intro a0 a1 a2 k
 obtain ⟨ih0, ih1, ih2⟩ := impl_table_walks.mono_l k
 unfold impl_table_walks.f
 repeat' first
   | (with_reducible exact ih0 _ _ _ _)
   | (with_reducible exact ih1 _ _ _ _ _ _ _)
   | (with_reducible exact ih2 _ _ _ _ _ _ _ _ _ _ _)
   | (with_reducible exact impl_listed.mono _ _)
   | (with_reducible exact LeO.refl _)
   | (with_reducible exact LeO.none _)
   | (with_reducible refine LeO.ite ?_ ?_)
   | (with_reducible refine LeO.bind ?_ (fun _ => ?_))
   | exact ih0 _ _ _ _
   | exact ih1 _ _ _ _ _ _ _
   | exact ih2 _ _ _ _ _ _ _ _ _ _ _
   | exact impl_listed.mono _ _
   | exact LeO.none _
   | refine LeO.ite ?_ ?_
   | refine LeO.bind ?_ (fun _ => ?_)
set_option maxHeartbeats 8000000 in
set_option maxRecDepth 100000 in
theorem impl_table_walks.calls (k : Nat) (A0 : Option Addr) (c0 : Nat) (l0 : List Int) (a1 : Int) (a2 : Int) (r : List Int) (w : World) (hG : Tab w) (hr0 : Kd.C (Kd.int .u16) w A0 l0.length l0) (hc0 : l0.length ≤ c0) (h : impl_table_walks.f k l0 a1 a2 = some r) :
  Calls Tryd.prog 45 #[.slice A0 l0.length c0, .int .i64 a1, .int .i64 a2] w fun e w' => ∃ v0_ : Value, e = .returned (v0_) ∧ Kd.R (Kd.int .i64) 3 w' w.heap.size (fun _ => True) v0_ r ∧ Below w.heap.size w w' := by
 have HG := Aside0.mk hG
 clear hG
 have HR0 := Aside0.mk hr0
 have HC0 := Aside0.mk hc0
 clear hr0 hc0
 have HB := Aside0.mk (Below.refl w.heap.size w)
 have H : (if 0 ≤ (l0.length : Int) then (if ((l0.length : Int) : Int).toNat ≤ 35184372088832 then ((some (List.replicate ((l0.length : Int) : Int).toNat 0 : List Int)).bind fun y319 => (if 0 ≤ a1 then (if a1 < (y319.length : Int) then (impl_table_walks.l0 k l0 (y319.set (a1 : Int).toNat 1) a2 0) else (none)) else (none))) else (none)) else (none)) = some r := h
 clear h
 by_cases c4 : 0 ≤ (l0.length : Int)
 ·rw [if_pos c4] at H
  have c4b0 := eq_true c4
  have c4b1 : decide (0 ≤ (l0.length : Int)) = true := decide_eq_true c4
  clear c4
  by_cases c5 : ((l0.length : Int) : Int).toNat ≤ 35184372088832
  ·rw [if_pos c5] at H
   have c5b0 := eq_true c5
   have c5b1 : decide (((l0.length : Int) : Int).toNat ≤ 35184372088832) = true := decide_eq_true c5
   clear c5
   obtain ⟨y319, hy319⟩ : ∃ y_ : List Int, y_ = (List.replicate ((l0.length : Int) : Int).toNat 0) := ⟨_, rfl⟩
   replace H : (if 0 ≤ a1 then (if a1 < (y319.length : Int) then (impl_table_walks.l0 k l0 (y319.set (a1 : Int).toNat 1) a2 0) else (none)) else (none)) = some r := by first | (rw [hy319]; with_reducible exact H) | (have H2_ := (Option.bind_some _ _).symm.trans H; rw [hy319]; with_reducible exact H2_) | (have H2_ := (Option.bind_some _ _).symm.trans H; with_reducible exact H2_) | with_reducible exact H | (rw [hy319]; exact H) | exact H
   have Ny319 := Aside0.mk hy319
   clear hy319
   by_cases c6 : 0 ≤ a1
   ·rw [if_pos c6] at H
    have c6b0 : decide (0 ≤ a1) = true := decide_eq_true c6
    clear c6
    by_cases c7 : a1 < (y319.length : Int)
    ·rw [if_pos c7] at H
     have c7b0 : decide (a1 < (y319.length : Int)) = true := decide_eq_true c7
     clear c7
     obtain ⟨y322, hy322⟩ : ∃ y_ : List Int, y_ = (y319.set (a1 : Int).toNat 1) := ⟨_, rfl⟩
     replace H : (impl_table_walks.l0 k l0 y322 a2 0) = some r := by first | (rw [hy322]; with_reducible exact H) | (have H2_ := (Option.bind_some _ _).symm.trans H; rw [hy322]; with_reducible exact H2_) | (have H2_ := (Option.bind_some _ _).symm.trans H; with_reducible exact H2_) | with_reducible exact H | (rw [hy322]; exact H) | exact H
     have Ny322 := Aside0.mk hy322
     clear hy322
     have H' := Aside0.mk H
     clear H
     go_enter Tryd.func45, Tryd.ntmps45
     go_wp2_with (first | ((with_reducible refine gate_dst (N := 15) rfl ?_); refine Kd.R_make (Kd.int .i64) _ 3 rfl (N := 15) rfl 44 _ _ rfl (l0.length : Int) rfl rfl Tryd.underlying44 (.int .i64 0) 8 info3 rfl (by decide) (by omega) 0 (ok := fun _ => True) (okp := fun _ => True) rfl (fun _ hk => hk) trivial (of_decide_eq_true (by first | (with_reducible assumption) | assumption)) (Nat.le_trans (Nat.mul_le_mul_right _ (of_decide_eq_true (by first | (with_reducible assumption) | assumption) : (l0.length : Int).toNat ≤ 35184372088832)) (by omega)) (Below.refl _ _) (Nat.le_refl _) ?_; intro v320 w9 ho10 hb hg_ hnew_; clear hg_ hnew_; (first | rw [← Ny319.out] at ho10 | (simp only [Int.reduceToNat] at ho10; rw [← Ny319.out] at ho10)); have n0_ := Aside0.mk (Kd.R_lower ho10 (below_size (by repeat (first | (with_reducible first | exact HB.out | apply below_alloc | apply pw_below_drewN | apply below_drew1) | exact HB.out)))); have n1_ := Aside0.mk (below_step (by repeat (first | (with_reducible first | exact HB.out | apply below_alloc | apply pw_below_drewN | apply below_drew1) | exact HB.out)) hb); clear HB; have HO321 := n0_; have HB := n1_; clear n0_ n1_; clear hb ho10; have p8 : 0 ≤ (a1 : Int) := of_decide_eq_true (by first | (with_reducible assumption) | assumption); have q8 : (a1 : Int) < ((y319.length : Int) : Int) := of_decide_eq_true (by first | (with_reducible assumption) | assumption); obtain ⟨go8, co8, eo8, gb8, gl8, cl8, HG8⟩ := Kd.R_form HO321.out (by omega); (first | cases eo8 | (injection eo8 with ea_ en_ ec_; (first | subst ea_ | (injection ea_ with ea_; subst ea_)); subst ec_; clear en_)); have GB8 := Aside0.mk gb8; have GG8 := Aside0.mk HG8; clear gb8 gl8 HG8; obtain ⟨hx8_0, hf8_0⟩ := Kd.R_celln 0 HO321.out (a1 : Int) p8 q8; replace p8 := eq_true p8; replace q8 := eq_true q8; obtain ⟨hy11_, hz11_⟩ := Kd.R_celln 0 HO321.out (a1 : Int) (of_decide_eq_true (by first | (with_reducible assumption) | assumption)) (of_decide_eq_true (by first | (with_reducible assumption) | assumption)); have HP11 := Kd.R_putg HO321.out (a1 : Int) 1) | ((with_reducible refine gate_store (t := 3) (p := 18) rfl ?_); refine store_event (t := 3) (p := 18) (v := ?vo_w12) (w1 := (w9.setCell ⟨go8, (a1 : Int).toNat, none⟩ (.int .i64 1))) ?hg ?ho ?hn ?hr ?_; (case ho => rfl); (case hg => rfl); (case hn => rfl); (case hr => first | (go_simp; done) | (go_simp; rfl)); intro w12 hw; have hg : w9.grownBy w12 (some go8) := (by rw [hw]; exact HP11.2); have hp_ : Kd.R (Kd.int .i64) 3 w12 w.heap.size (fun _ => True) (.slice (some ⟨go8, 0, none⟩) y319.length co8) y322 := (by rw [hw, Ny322.out]; exact HP11.1); clear HP11; have n0_ := Aside0.mk (hp_); have n1_ := Aside0.mk ((by rw [hw]; exact below_set (HB.out) GB8.out : Below w.heap.size w w12)); clear HO321; clear HB; have HO321 := n0_; have HB := n1_; clear n0_ n1_; clear hg hw hp_))
     go_loopg [7, 20] k (fun kq v7 v20 w' => ∃ (x7_1 : List Int) (x20_1 : Int), v20 = .int .i64 x20_1 ∧ Aside0 (impl_table_walks.l0 kq l0 x7_1 a2 x20_1 = some r) ∧ Aside0 (kq ≤ k) ∧ Aside0 (Kd.R (Kd.int .i64) 3 w' w.heap.size (fun _ => True) v7 x7_1) ∧ Aside0 (Below w.heap.size w w'))
     case atStart => exact ⟨(y322), (0), (by first | rfl | (simp; done) | (simp [*]; done)), H', ⟨Nat.le_refl _⟩, ⟨by (with_reducible repeat (first | apply Kd.R_alloc | apply Kd.R_drewN | apply Kd.R_drew)); exact HO321.out⟩, ⟨by repeat (first | (with_reducible first | exact HB.out | apply below_alloc | apply pw_below_drewN | apply below_drew1) | exact HB.out)⟩⟩
     case round =>
      clear H'
      try clear p2
      try clear c4
      try clear c4b0
      try clear c4b1
      try clear c5
      try clear c5b0
      try clear c5b1
      try clear c6
      try clear c6b0
      try clear c7
      try clear c7b0
      try clear p8
      try clear q8
      try clear hx8
      try clear hf8
      try clear hx8_0
      try clear p8
      try clear q8
      obtain ⟨x7_1, x20_1, rfl, HA, HK1, HO_7, HB⟩ := hrel
      cases gk with
      | zero => exact absurd HA.out (by simp [impl_table_walks.l0])
      | succ k1 =>
       have H := HA.out
       clear HA
       simp only [impl_table_walks.l0] at H
       by_cases c13 : x20_1 < a2
       ·rw [if_pos c13] at H
        have c13b0 : decide (x20_1 < a2) = true := decide_eq_true c13
        clear c13
        by_cases c14 : 0 ≤ (l0.length : Int)
        ·rw [if_pos c14] at H
         have c14b0 := eq_true c14
         have c14b1 : decide (0 ≤ (l0.length : Int)) = true := decide_eq_true c14
         clear c14
         by_cases c15 : ((l0.length : Int) : Int).toNat ≤ 35184372088832
         ·rw [if_pos c15] at H
          have c15b0 := eq_true c15
          have c15b1 : decide (((l0.length : Int) : Int).toNat ≤ 35184372088832) = true := decide_eq_true c15
          clear c15
          obtain ⟨y323, hy323⟩ : ∃ y_ : List Int, y_ = (List.replicate ((l0.length : Int) : Int).toNat 0) := ⟨_, rfl⟩
          replace H : (impl_table_walks.l1 k1 l0 y323 a2 x20_1 x7_1 (x7_1.length : Int) 0) = some r := by first | (rw [hy323]; with_reducible exact H) | (have H2_ := (Option.bind_some _ _).symm.trans H; rw [hy323]; with_reducible exact H2_) | (have H2_ := (Option.bind_some _ _).symm.trans H; with_reducible exact H2_) | with_reducible exact H | (rw [hy323]; exact H) | exact H
          have Ny323 := Aside0.mk hy323
          clear hy323
          have H' := Aside0.mk H
          clear H
          go_wp2_with (first | ((with_reducible refine gate_dst (N := 24) rfl ?_); refine Kd.R_make (Kd.int .i64) _ 3 rfl (N := 24) rfl 44 _ _ rfl (l0.length : Int) rfl rfl Tryd.underlying44 (.int .i64 0) 8 info3 rfl (by decide) (by omega) 0 (ok := fun _ => True) (okp := fun _ => True) rfl (fun _ hk => hk) trivial (of_decide_eq_true (by first | (with_reducible assumption) | assumption)) (Nat.le_trans (Nat.mul_le_mul_right _ (of_decide_eq_true (by first | (with_reducible assumption) | assumption) : (l0.length : Int).toNat ≤ 35184372088832)) (by omega)) (Below.refl _ _) (Nat.le_refl _) ?_; intro v324 w16 ho17 hb hg_ hnew_; clear hg_ hnew_; (first | rw [← Ny323.out] at ho17 | (simp only [Int.reduceToNat] at ho17; rw [← Ny323.out] at ho17)); have n0_ := Aside0.mk (Kd.R_elder' (by (with_reducible repeat (first | apply Kd.R_alloc | apply Kd.R_drewN | apply Kd.R_drew)); exact HO_7.out) (Kd.R_base ho17) hb); have n1_ := Aside0.mk (Kd.R_lower (Kd.R_new' ho17 (Kd.R_lt (by (with_reducible repeat (first | apply Kd.R_alloc | apply Kd.R_drewN | apply Kd.R_drew)); exact HO_7.out))) (below_size (by repeat (first | (with_reducible first | exact HB.out | apply below_alloc | apply pw_below_drewN | apply below_drew1) | exact HB.out)))); have n2_ := Aside0.mk (below_step (by repeat (first | (with_reducible first | exact HB.out | apply below_alloc | apply pw_below_drewN | apply below_drew1) | exact HB.out)) hb); clear HO_7; clear HB; have HO_7 := n0_; have HO325 := n1_; have HB := n2_; clear n0_ n1_ n2_; clear hb ho17; obtain ⟨Ao18, co18, eo18⟩ := Kd.R_slice HO_7.out; subst eo18))
          go_loopg [27] k1 (fun kq v27 w' => ∃ (x8_2 : List Int) (x27_2 : Int), v27 = .int .i64 x27_2 ∧ Aside0 (impl_table_walks.l1 kq l0 x8_2 a2 x20_1 x7_1 (x7_1.length : Int) x27_2 = some r) ∧ Aside0 (kq ≤ k1) ∧ Aside0 (Kd.R (Kd.int .i64) 3 w' w.heap.size (fun k_ => some k_ ≠ ((.slice Ao18 x7_1.length co18) : Value).ownBlock) v324 x8_2) ∧ Aside0 (Kd.R (Kd.int .i64) 3 w' w.heap.size (fun k_ => some k_ ≠ (v324 : Value).ownBlock) (.slice Ao18 x7_1.length co18) x7_1) ∧ Aside0 (Below w.heap.size w w'))
          case atStart => exact ⟨(y323), (0), (by first | rfl | (simp; done) | (simp [*]; done)), H', ⟨Nat.le_refl _⟩, ⟨by (with_reducible repeat (first | apply Kd.R_alloc | apply Kd.R_drewN | apply Kd.R_drew)); exact Kd.R_mono HO325.out (fun _ hk => hk.2)⟩, ⟨by (with_reducible repeat (first | apply Kd.R_alloc | apply Kd.R_drewN | apply Kd.R_drew)); exact Kd.R_mono HO_7.out (fun _ hk => hk.2)⟩, ⟨by repeat (first | (with_reducible first | exact HB.out | apply below_alloc | apply pw_below_drewN | apply below_drew1) | exact HB.out)⟩⟩
          case round =>
           clear H'
           try clear c1
           try clear p2
           try clear c4
           try clear c4b0
           try clear c4b1
           try clear c5
           try clear c5b0
           try clear c5b1
           try clear c6
           try clear c6b0
           try clear c7
           try clear c7b0
           try clear p8
           try clear q8
           try clear hx8
           try clear hf8
           try clear c13
           try clear c13b0
           try clear c14
           try clear c14b0
           try clear c14b1
           try clear c15
           try clear c15b0
           try clear c15b1
           try clear hx8_0
           try clear p2
           try clear p8
           try clear q8
           obtain ⟨x8_2, x27_2, rfl, HA, HK2, HO_8, HO_25, HB⟩ := hrel
           cases gk with
           | zero => exact absurd HA.out (by simp [impl_table_walks.l1])
           | succ k2 =>
            have H := HA.out
            clear HA
            simp only [impl_table_walks.l1] at H
            by_cases c19 : x27_2 < (x7_1.length : Int)
            ·rw [if_pos c19] at H
             have c19b0 : decide (x27_2 < (x7_1.length : Int)) = true := decide_eq_true c19
             clear c19
             by_cases c20 : 0 ≤ x27_2
             ·rw [if_pos c20] at H
              have c20b0 : decide (0 ≤ x27_2) = true := decide_eq_true c20
              clear c20
              by_cases c21 : x27_2 < (x7_1.length : Int)
              ·rw [if_pos c21] at H
               have c21b0 : decide (x27_2 < (x7_1.length : Int)) = true := decide_eq_true c21
               clear c21
               by_cases c22 : x27_2 < (l0.length : Int)
               ·rw [if_pos c22] at H
                have c22b0 : decide (x27_2 < (l0.length : Int)) = true := decide_eq_true c22
                clear c22
                replace H := Option.bind_eq_some_iff.mp H
                obtain ⟨t328, A230, H⟩ := H
                replace H : (impl_table_walks.l2 k2 l0 x8_2 (rd x7_1 x27_2) a2 x20_1 x7_1 (x7_1.length : Int) x27_2 t328 (t328.length : Int) 0) = some r := H
                have A23 := Aside0.mk A230
                clear A230
                have H' := Aside0.mk H
                clear H
                have p326 : 0 ≤ (x27_2 : Int) := of_decide_eq_true (by first | (with_reducible assumption) | assumption)
                have q326 : x27_2 < (x7_1.length : Int) := of_decide_eq_true (by first | (with_reducible assumption) | assumption)
                obtain ⟨ad326, e326, hx326_0⟩ := Kd.at_int (Kd.R_reads' HO_25.out).2.2 x27_2 p326 q326
                cases e326
                replace p326 := eq_true p326
                replace q326 := eq_true q326
                have p327 : 0 ≤ (x27_2 : Int) := of_decide_eq_true (by first | (with_reducible assumption) | assumption)
                have q327 : x27_2 < (l0.length : Int) := of_decide_eq_true (by first | (with_reducible assumption) | assumption)
                obtain ⟨ad327, e327, hx327_0⟩ := Kd.at_int HR0.out x27_2 p327 q327
                cases e327
                (try (replace hx327_0 := (HB.out.cell (World.block_lt_of_cell? w _ hx327_0)).trans hx327_0))
                replace p327 := eq_true p327
                replace q327 := eq_true q327
                go_wp2_with (first | ((with_reducible refine gate_callee (f := 33) rfl ?_); refine goesL_ (some 36) rfl rfl Tryd.func33 (by kernel_rfl) rfl #[.int .u16 (rd l0 x27_2)] rfl (by (try simp only [List.map_toArray, List.map_cons, List.map_nil]); first | done | rfl | (simp only [List.length_drop, List.length_take]; rfl)) ?_; (with_reducible refine (impl_listed.calls k2 (rd l0 x27_2) t328 _ ?sideG A23.out).mono ?_); (case sideG => first | exact HG.out | exact Tab.below HG.out (by repeat (first | (with_reducible first | exact HB.out | apply below_alloc | apply pw_below_drewN | apply below_drew1) | exact HB.out))); rintro e w24 ⟨v329, rfl, ho0, hb⟩; refine ⟨_, rfl, ?_⟩; have n0_ := Aside0.mk (Kd.R_elder' (by (with_reducible repeat (first | apply Kd.R_alloc | apply Kd.R_drewN | apply Kd.R_drew)); exact HO_8.out) (Kd.R_base ho0) hb); have n1_ := Aside0.mk (Kd.R_elder' (by (with_reducible repeat (first | apply Kd.R_alloc | apply Kd.R_drewN | apply Kd.R_drew)); exact HO_25.out) (Kd.R_base ho0) hb); have n2_ := Aside0.mk (Kd.R_lower (Kd.R_new' (Kd.R_new' ho0 (Kd.R_lt (by (with_reducible repeat (first | apply Kd.R_alloc | apply Kd.R_drewN | apply Kd.R_drew)); exact HO_8.out))) (Kd.R_lt (by (with_reducible repeat (first | apply Kd.R_alloc | apply Kd.R_drewN | apply Kd.R_drew)); exact HO_25.out))) (below_size (by repeat (first | (with_reducible first | exact HB.out | apply below_alloc | apply pw_below_drewN | apply below_drew1) | exact HB.out)))); have n3_ := Aside0.mk (below_step (by repeat (first | (with_reducible first | exact HB.out | apply below_alloc | apply pw_below_drewN | apply below_drew1) | exact HB.out)) hb); clear HO_8; clear HO_25; clear HB; have HO_8 := n0_; have HO_25 := n1_; have HO330 := n2_; have HB := n3_; clear n0_ n1_ n2_ n3_; (try clear hb); (try clear hb2); (try clear hk); (try clear hi); (try clear ho0); obtain ⟨Ao25, co25, eo25⟩ := Kd.R_slice HO330.out; subst eo25))
                go_loopg [38] k2 (fun kq v38 w' => ∃ (x8_3 : List Int) (x38_3 : Int), v38 = .int .i64 x38_3 ∧ Aside0 (impl_table_walks.l2 kq l0 x8_3 (rd x7_1 x27_2) a2 x20_1 x7_1 (x7_1.length : Int) x27_2 t328 (t328.length : Int) x38_3 = some r) ∧ Aside0 (kq ≤ k2) ∧ Aside0 (Kd.R (Kd.int .i64) 3 w' w.heap.size (fun k_ => some k_ ≠ ((.slice (some ad326) x7_1.length co18) : Value).ownBlock ∧ some k_ ≠ ((.slice Ao25 t328.length co25) : Value).ownBlock) v324 x8_3) ∧ Aside0 (Kd.R (Kd.int .i64) 3 w' w.heap.size (fun k_ => some k_ ≠ (v324 : Value).ownBlock ∧ some k_ ≠ ((.slice Ao25 t328.length co25) : Value).ownBlock) (.slice (some ad326) x7_1.length co18) x7_1) ∧ Aside0 (Kd.R (Kd.int .i64) 3 w' w.heap.size (fun k_ => some k_ ≠ (v324 : Value).ownBlock ∧ some k_ ≠ ((.slice (some ad326) x7_1.length co18) : Value).ownBlock) (.slice Ao25 t328.length co25) t328) ∧ Aside0 (Below w.heap.size w w'))
                case atStart => exact ⟨(x8_2), (0), (by first | rfl | (simp; done) | (simp [*]; done)), H', ⟨Nat.le_refl _⟩, ⟨by (with_reducible repeat (first | apply Kd.R_alloc | apply Kd.R_drewN | apply Kd.R_drew)); exact HO_8.out⟩, ⟨by (with_reducible repeat (first | apply Kd.R_alloc | apply Kd.R_drewN | apply Kd.R_drew)); exact HO_25.out⟩, ⟨by (with_reducible repeat (first | apply Kd.R_alloc | apply Kd.R_drewN | apply Kd.R_drew)); exact Kd.R_mono HO330.out (fun _ hk => ⟨hk.1.2, hk.2⟩)⟩, ⟨by repeat (first | (with_reducible first | exact HB.out | apply below_alloc | apply pw_below_drewN | apply below_drew1) | exact HB.out)⟩⟩
                case round =>
                 clear H'
                 try clear c1
                 try clear c2
                 try clear p2
                 try clear c3
                 try clear p3
                 try clear q3
                 try clear hx3
                 try clear c4
                 try clear c4b0
                 try clear c4b1
                 try clear c5
                 try clear c5b0
                 try clear c5b1
                 try clear c6
                 try clear c6b0
                 try clear c7
                 try clear c7b0
                 try clear p8
                 try clear q8
                 try clear hx8
                 try clear hf8
                 try clear c13
                 try clear c13b0
                 try clear c14
                 try clear c14b0
                 try clear c14b1
                 try clear c15
                 try clear c15b0
                 try clear c15b1
                 try clear c19
                 try clear c19b0
                 try clear c20
                 try clear c20b0
                 try clear c21
                 try clear c21b0
                 try clear c22
                 try clear c22b0
                 try clear hx326_0
                 try clear hx327_0
                 try clear hx8_0
                 try clear p2
                 try clear p326
                 try clear p327
                 try clear p8
                 try clear q326
                 try clear q327
                 try clear q8
                 obtain ⟨x8_3, x38_3, rfl, HA, HK3, HO_8, HO_25, HO_36, HB⟩ := hrel
                 cases gk with
                 | zero => exact absurd HA.out (by simp [impl_table_walks.l2])
                 | succ k3 =>
                  have H := HA.out
                  clear HA
                  simp only [impl_table_walks.l2] at H
                  by_cases c26 : x38_3 < (t328.length : Int)
                  ·rw [if_pos c26] at H
                   have c26b0 : decide (x38_3 < (t328.length : Int)) = true := decide_eq_true c26
                   clear c26
                   by_cases c27 : 0 ≤ x38_3
                   ·rw [if_pos c27] at H
                    have c27b0 : decide (0 ≤ x38_3) = true := decide_eq_true c27
                    clear c27
                    by_cases c28 : x38_3 < (t328.length : Int)
                    ·rw [if_pos c28] at H
                     have c28b0 : decide (x38_3 < (t328.length : Int)) = true := decide_eq_true c28
                     clear c28
                     by_cases c29 : 0 ≤ (rd t328 x38_3)
                     ·rw [if_pos c29] at H
                      have c29b0 : decide (0 ≤ (rd t328 x38_3)) = true := decide_eq_true c29
                      clear c29
                      by_cases c30 : (rd t328 x38_3) < (x8_3.length : Int)
                      ·rw [if_pos c30] at H
                       have c30b0 : decide ((rd t328 x38_3) < (x8_3.length : Int)) = true := decide_eq_true c30
                       clear c30
                       obtain ⟨y333, hy333⟩ : ∃ y_ : List Int, y_ = (x8_3.set ((rd t328 x38_3) : Int).toNat (wrap64 ((rd x8_3 (rd t328 x38_3)) + (rd x7_1 x27_2)))) := ⟨_, rfl⟩
                       replace H : (impl_table_walks.l2 k3 l0 y333 (rd x7_1 x27_2) a2 x20_1 x7_1 (x7_1.length : Int) x27_2 t328 (t328.length : Int) (wrap64 (x38_3 + 1))) = some r := by first | (rw [hy333]; with_reducible exact H) | (have H2_ := (Option.bind_some _ _).symm.trans H; rw [hy333]; with_reducible exact H2_) | (have H2_ := (Option.bind_some _ _).symm.trans H; with_reducible exact H2_) | with_reducible exact H | (rw [hy333]; exact H) | exact H
                       have Ny333 := Aside0.mk hy333
                       clear hy333
                       have H' := Aside0.mk H
                       clear H
                       have p331 : 0 ≤ (x38_3 : Int) := of_decide_eq_true (by first | (with_reducible assumption) | assumption)
                       have q331 : x38_3 < (t328.length : Int) := of_decide_eq_true (by first | (with_reducible assumption) | assumption)
                       obtain ⟨ad331, e331, hx331_0⟩ := Kd.at_int (Kd.R_reads' HO_36.out).2.2 x38_3 p331 q331
                       cases e331
                       replace p331 := eq_true p331
                       replace q331 := eq_true q331
                       obtain ⟨Ao32, co32, eo32⟩ := Kd.R_slice HO_8.out
                       subst eo32
                       have p332 : 0 ≤ ((rd t328 x38_3) : Int) := of_decide_eq_true (by first | (with_reducible assumption) | assumption)
                       have q332 : (rd t328 x38_3) < (x8_3.length : Int) := of_decide_eq_true (by first | (with_reducible assumption) | assumption)
                       obtain ⟨ad332, e332, hx332_0⟩ := Kd.at_int (Kd.R_reads' HO_8.out).2.2 (rd t328 x38_3) p332 q332
                       cases e332
                       replace p332 := eq_true p332
                       replace q332 := eq_true q332
                       have p31 : 0 ≤ ((rd t328 x38_3) : Int) := of_decide_eq_true (by first | (with_reducible assumption) | assumption)
                       have q31 : ((rd t328 x38_3) : Int) < ((x8_3.length : Int) : Int) := of_decide_eq_true (by first | (with_reducible assumption) | assumption)
                       obtain ⟨go31, co31, eo31, gb31, gl31, cl31, HG31⟩ := Kd.R_form HO_8.out (by omega)
                       (first | cases eo31 | (injection eo31 with ea_ en_ ec_; (first | subst ea_ | (injection ea_ with ea_; subst ea_)); subst ec_; clear en_))
                       have GB31 := Aside0.mk gb31
                       have GG31 := Aside0.mk HG31
                       clear gb31 gl31 HG31
                       (first | simp only [add_plain] at hx332_0 | skip)
                       obtain ⟨hx31_0, hf31_0⟩ := Kd.R_celln 0 HO_8.out ((rd t328 x38_3) : Int) p31 q31
                       replace p31 := eq_true p31
                       replace q31 := eq_true q31
                       have HP33 := Kd.R_putg HO_8.out ((rd t328 x38_3) : Int) (wrap64 ((rd x8_3 (rd t328 x38_3)) + (rd x7_1 x27_2)))
                       go_wp2_with (first | ((with_reducible refine gate_store (t := 3) (p := 48) rfl ?_); refine store_event (t := 3) (p := 48) (v := ?vo_w34) (w1 := (wr.setCell ⟨go31, ((rd t328 x38_3) : Int).toNat, none⟩ (.int .i64 (wrap64 ((rd x8_3 (rd t328 x38_3)) + (rd x7_1 x27_2)))))) ?hg ?ho ?hn ?hr ?_; (case ho => rfl); (case hg => rfl); (case hn => rfl); (case hr => first | (go_simp; done) | (go_simp; rfl)); intro w34 hw; have hg : wr.grownBy w34 (some go31) := (by rw [hw]; exact HP33.2); have hp_ : Kd.R (Kd.int .i64) 3 w34 w.heap.size (fun k_ => some k_ ≠ (.slice (some ad326) x7_1.length co18 : Value).ownBlock ∧ some k_ ≠ (.slice (some ad331) t328.length co25 : Value).ownBlock) (.slice (some ⟨go31, 0, none⟩) x8_3.length co32) y333 := (by rw [hw, Ny333.out]; exact HP33.1); clear HP33; have n0_ := Aside0.mk (hp_); have n1_ := Aside0.mk (Kd.R_after (v := (.slice (some ⟨go31, 0, none⟩) x8_3.length co32)) (v1 := (.slice (some ⟨go31, 0, none⟩) x8_3.length co32)) (ok := (fun k_ => some k_ ≠ (.slice (some ad331) t328.length co25 : Value).ownBlock)) (by (with_reducible repeat (first | apply Kd.R_alloc | apply Kd.R_drewN | apply Kd.R_drew)); exact Kd.R_mono HO_25.out (fun _ hk => ⟨hk.2, hk.1⟩)) hg (.inl rfl)); have n2_ := Aside0.mk (Kd.R_after (v := (.slice (some ⟨go31, 0, none⟩) x8_3.length co32)) (v1 := (.slice (some ⟨go31, 0, none⟩) x8_3.length co32)) (ok := (fun k_ => some k_ ≠ (.slice (some ad326) x7_1.length co18 : Value).ownBlock)) (by (with_reducible repeat (first | apply Kd.R_alloc | apply Kd.R_drewN | apply Kd.R_drew)); exact Kd.R_mono HO_36.out (fun _ hk => ⟨hk.2, hk.1⟩)) hg (.inl rfl)); have n3_ := Aside0.mk ((by rw [hw]; exact below_set (HB.out) GB31.out : Below w.heap.size w w34)); clear HO_8; clear HO_25; clear HO_36; clear HB; have HO_8 := n0_; have HO_25 := n1_; have HO_36 := n2_; have HB := n3_; clear n0_ n1_ n2_ n3_; clear hg hw hp_))
                       go_roundg k3
                       case measure => have := HK1.out; have := HK2.out; have := HK3.out; omega
                       case rel => exact ⟨(y333), (wrap64 (x38_3 + 1)), (by first | rfl | (simp; done) | (simp [*]; done)), H', ⟨by have := HK1.out; have := HK2.out; have := HK3.out; omega⟩, ⟨by (with_reducible repeat (first | apply Kd.R_alloc | apply Kd.R_drewN | apply Kd.R_drew)); exact HO_8.out⟩, ⟨by (with_reducible repeat (first | apply Kd.R_alloc | apply Kd.R_drewN | apply Kd.R_drew)); exact Kd.R_mono HO_25.out (fun _ hk => ⟨hk.2, hk.1⟩)⟩, ⟨by (with_reducible repeat (first | apply Kd.R_alloc | apply Kd.R_drewN | apply Kd.R_drew)); exact Kd.R_mono HO_36.out (fun _ hk => ⟨hk.2, hk.1⟩)⟩, ⟨by repeat (first | (with_reducible first | exact HB.out | apply below_alloc | apply pw_below_drewN | apply below_drew1) | exact HB.out)⟩⟩
                      ·rw [if_neg c30] at H
                       exact absurd H (by simp)
                     ·rw [if_neg c29] at H
                      exact absurd H (by simp)
                    ·rw [if_neg c28] at H
                     exact absurd H (by simp)
                   ·rw [if_neg c27] at H
                    exact absurd H (by simp)
                  ·rw [if_neg c26] at H
                   have c26b0 : decide (x38_3 < (t328.length : Int)) = false := decide_eq_false c26
                   clear c26
                   have H' := Aside0.mk H
                   clear H
                   go_wp2
                   go_roundg k3
                   case measure => have := HK1.out; have := HK2.out; have := HK3.out; omega
                   case rel => exact ⟨(x8_3), (wrap64 (x27_2 + 1)), (by first | rfl | (simp; done) | (simp [*]; done)), H', ⟨by have := HK1.out; have := HK2.out; have := HK3.out; omega⟩, ⟨by (with_reducible repeat (first | apply Kd.R_alloc | apply Kd.R_drewN | apply Kd.R_drew)); exact Kd.R_mono HO_8.out (fun _ hk => hk.1)⟩, ⟨by (with_reducible repeat (first | apply Kd.R_alloc | apply Kd.R_drewN | apply Kd.R_drew)); exact Kd.R_mono HO_25.out (fun _ hk => hk.1)⟩, ⟨by repeat (first | (with_reducible first | exact HB.out | apply below_alloc | apply pw_below_drewN | apply below_drew1) | exact HB.out)⟩⟩
               ·rw [if_neg c22] at H
                exact absurd H (by simp)
              ·rw [if_neg c21] at H
               exact absurd H (by simp)
             ·rw [if_neg c20] at H
              exact absurd H (by simp)
            ·rw [if_neg c19] at H
             have c19b0 : decide (x27_2 < (x7_1.length : Int)) = false := decide_eq_false c19
             clear c19
             have H' := Aside0.mk H
             clear H
             go_wp2
             go_roundg k2
             case measure => have := HK1.out; have := HK2.out; omega
             case rel => exact ⟨(x8_2), (wrap64 (x20_1 + 1)), (by first | rfl | (simp; done) | (simp [*]; done)), H', ⟨by have := HK1.out; have := HK2.out; omega⟩, ⟨by (with_reducible repeat (first | apply Kd.R_alloc | apply Kd.R_drewN | apply Kd.R_drew)); exact Kd.R_mono HO_8.out (fun _ hk => trivial)⟩, ⟨by repeat (first | (with_reducible first | exact HB.out | apply below_alloc | apply pw_below_drewN | apply below_drew1) | exact HB.out)⟩⟩
         ·rw [if_neg c15] at H
          exact absurd H (by simp)
        ·rw [if_neg c14] at H
         exact absurd H (by simp)
       ·rw [if_neg c13] at H
        have c13b0 : decide (x20_1 < a2) = false := decide_eq_false c13
        clear c13
        obtain rfl := Option.some.inj H
        go_wp2
        go_ret
        exact ⟨_, by first | rfl | (simp [errW_none, errW_some] <;> rfl) | (simp [*, errW_none, errW_some] <;> rfl), by (with_reducible repeat (first | apply Kd.R_alloc | apply Kd.R_drewN | apply Kd.R_drew)); exact HO_7.out, by repeat (first | (with_reducible first | exact HB.out | apply below_alloc | apply pw_below_drewN | apply below_drew1) | exact HB.out)⟩
    ·rw [if_neg c7] at H
     exact absurd H (by simp)
   ·rw [if_neg c6] at H
    exact absurd H (by simp)
  ·rw [if_neg c5] at H
   exact absurd H (by simp)
 ·rw [if_neg c4] at H
  exact absurd H (by simp)

end Go.Proofs.YtipblaifgpnebaaDoor.Q
