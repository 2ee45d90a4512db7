-- Written by wip/tools/gprint.py (the kit's print, with contracts of this session): Lean checks it.
import Derived.Test.YteffcgocnkcpiaaDoorQ0
namespace Go.Proofs.YteffcgocnkcpiaaDoor.Q
open Go.RowKit Go.Proofs.YteffcgocnkcpiaaDoorW.PrintWords Go.Proofs.YteffcgocnkcpiaaDoorW.PrintLast Go.Proofs.YteffcgocnkcpiaaDoorW.PrintMore
attribute [local go_sem] max2_int min2_int max_two min_two max_three min_three max_four min_four   -- for this text's walks alone
set_option linter.unusedVariables false
set_option linter.unusedSimpArgs false

/-! ### bits_TrailingZeros16: function 49 (proved by hand) -/
/-- The library's table, as the program's text lays it. -/
def debL : List Int := [0, 1, 28, 2, 29, 14, 24, 3, 30, 22, 20, 15, 25, 17, 4, 8, 31, 27, 13, 23, 21, 19, 16, 7, 26, 12, 18, 6, 11, 5, 10, 9]
/-- The table lies in memory. -/
def Tab (w : World) : Prop := ∀ i, i < 32 → w.cell? ⟨0, i, none⟩ = some (.int .u8 (debL.getD i 0))
theorem Tab.below {w W : World} (h : Tab w) (hb : Below w.heap.size w W) : Tab W := fun i hi => (hb.cell (World.block_lt_of_cell? w _ (h i hi))).trans (h i hi)
/-- The place of the lowest bit. -/
def tz : Nat → Nat → Nat
 | 0, _ => 0
 | k + 1, m => if m % 2 = 1 then 0 else tz k (m / 2) + 1
/-- How many zeros stand behind the lowest one. -/
def bits_TrailingZeros16.f (a0 : Int) : Option (Int) := if 0 ≤ a0 ∧ a0 < 65536 then (if a0 = 0 then some 16 else some ((tz 16 a0.toNat : Nat) : Int)) else none
theorem tz_bit : ∀ (k m : Nat), 0 < m → m < 2 ^ k → ∃ t q, t < k ∧ tz k m = t ∧ m = 2 ^ t * (2 * q + 1)
 | 0, m, h0, h => by simp at h; omega
 | k + 1, m, h0, h => by
  unfold tz
  by_cases c : m % 2 = 1
  ·rw [if_pos c]
   exact ⟨0, m / 2, by omega, rfl, by omega⟩
  ·rw [if_neg c]
   obtain ⟨t, q, h1, h2, h3⟩ := tz_bit k (m / 2) (by omega) (by rw [Nat.pow_succ] at h; omega)
   refine ⟨t + 1, q, by omega, by rw [h2], ?_⟩
   have : m = 2 * (m / 2) := by omega
   rw [this, h3, Nat.pow_succ]
   rw [Nat.mul_comm (2 ^ t) 2, Nat.mul_assoc]
theorem low_bit {t q : Nat} (h : 2 ^ t * (2 * q + 1) < 2 ^ 16) : (2 ^ t * (2 * q + 1)) &&& (2 ^ 16 - 2 ^ t * (2 * q + 1)) = 2 ^ t := by
 have hp : 0 < 2 ^ t := Nat.two_pow_pos t
 have hm : 2 ^ t * (2 * q + 1) = 2 ^ t * (2 * q) + 2 ^ t := by rw [Nat.mul_add, Nat.mul_one]
 have hd : 2 ^ t * (2 * q + 1) = 2 ^ t * (2 * q) + (2 ^ t - 1) + 1 := by omega
 apply Nat.eq_of_testBit_eq
 intro i
 rw [Nat.testBit_and]
 have e2 : (2 ^ 16 - 2 ^ t * (2 * q + 1)).testBit i = (decide (i < 16) && !(2 ^ t * (2 * q) + (2 ^ t - 1)).testBit i) := by
  conv => lhs; rw [hd]
  exact Nat.testBit_two_pow_sub_succ (by omega) i
 rw [e2, Nat.testBit_two_pow_mul_add _ (by omega : 2 ^ t - 1 < 2 ^ t), Nat.testBit_two_pow_sub_one, Nat.testBit_two_pow]
 rw [Nat.testBit_two_pow_mul]
 by_cases c1 : i < t
 ·rw [if_pos c1]
  simp [c1, show ¬ t = i by omega, show ¬ t ≤ i by omega]
 ·rw [if_neg c1]
  by_cases c2 : t = i
  ·subst c2
   have ht : t < 16 := by
    rcases Nat.lt_or_ge t 16 with c | c
    ·exact c
    ·have := Nat.pow_le_pow_right (show 0 < 2 by omega) c
     have : 2 ^ t ≤ 2 ^ t * (2 * q + 1) := Nat.le_mul_of_pos_right _ (by omega)
     omega
   simp [ht]
  ·have h3 : t ≤ i := by omega
   obtain ⟨d, rfl⟩ : ∃ d, i = t + 1 + d := ⟨i - t - 1, by omega⟩
   have e3 : t + 1 + d - t = d + 1 := by omega
   rw [e3]
   have a1 : (2 * q + 1).testBit (d + 1) = q.testBit d := by rw [Nat.testBit_succ, show (2 * q + 1) / 2 = q by omega]
   have a2 : (2 * q).testBit (d + 1) = q.testBit d := by rw [Nat.testBit_succ, show 2 * q / 2 = q by omega]
   rw [a1, a2, decide_eq_false (show ¬ t = t + 1 + d by omega)]
   cases q.testBit d <;> simp
theorem tz_wraps (n : Int) (h₀ : 0 ≤ n) (h₁ : n < 2 ^ 16) : IntKind.u16.wrap n = n := by
 simp only [IntKind.wrap, IntKind.signed, IntKind.bits]
 simp
 omega
theorem tz_place : ∀ t : Fin 16, ((((2 ^ t.val : Nat) : Int) % 4294967296 * 125613361 % 4294967296 / 134217728).toNat < 32) ∧ debL.getD (((2 ^ t.val : Nat) : Int) % 4294967296 * 125613361 % 4294967296 / 134217728).toNat 0 = (t.val : Int) := by decide +kernel
theorem tz_and {a0 : Int} (h0 : 0 ≤ a0) (h1 : a0 < 65536) (hn : ¬ a0 = 0) : ∃ t, t < 16 ∧ tz 16 a0.toNat = t ∧ Go.bits .and .u16 a0 (IntKind.u16.wrap (-a0)) = ((2 ^ t : Nat) : Int) := by
 obtain ⟨m, rfl⟩ := Int.eq_ofNat_of_zero_le h0
 obtain ⟨t, q, ht, e1, e2⟩ := tz_bit 16 m (by omega) (by omega)
 refine ⟨t, ht, by rw [Int.toNat_natCast]; exact e1, ?_⟩
 have hw : IntKind.u16.wrap (-(m : Int)) = ((2 ^ 16 - m : Nat) : Int) := by
  simp only [IntKind.wrap, IntKind.signed, IntKind.bits]
  simp
  omega
 rw [hw, (bits_nat .u16 16 (by decide) tz_wraps m (2 ^ 16 - m) (by omega) (by omega)).1]
 congr 1
 rw [e2]
 exact low_bit (by omega)
theorem tz_cell {w : World} (hG : Tab w) {a0 : Int} (h0 : 0 ≤ a0) (h1 : a0 < 65536) (hn : ¬ a0 = 0) : w.cell? ⟨0, (Go.bits .and .u16 a0 (IntKind.u16.wrap (-a0)) % 4294967296 * 125613361 % 4294967296 / 134217728).toNat, none⟩ = some (.int .u8 ((tz 16 a0.toNat : Nat) : Int)) := by
 obtain ⟨t, ht, e1, e2⟩ := tz_and h0 h1 hn
 obtain ⟨p1, p2⟩ := tz_place ⟨t, ht⟩
 rw [e2, e1, hG _ p1]
 exact congrArg (fun z => some (Value.int .u8 z)) p2
set_option maxHeartbeats 8000000 in
set_option maxRecDepth 100000 in
theorem bits_TrailingZeros16.calls (a0 : Int) (r : Int) (w : World) (hG : Tab w) (h : bits_TrailingZeros16.f a0 = some r) :
  Calls Tryd.prog 49 #[.int .u16 a0] w fun e w' => e = .returned (.int .i64 r) ∧ Drawn0 w w' := by
 unfold bits_TrailingZeros16.f at h
 by_cases hb : 0 ≤ a0 ∧ a0 < 65536
 ·rw [if_pos hb] at h
  by_cases h0 : a0 = 0
  ·rw [if_pos h0] at h
   obtain rfl := Option.some.inj h
   subst h0
   clear h hb
   have HG := Aside0.mk hG
   clear hG
   go_enter Tryd.func49, Tryd.ntmps49
   go_wp2
   go_ret
   exact ⟨rfl, Drawn0.refl _⟩
  ·rw [if_neg h0] at h
   obtain rfl := Option.some.inj h
   clear h
   have hcell := tz_cell hG hb.1 hb.2 h0
   have hne : (a0 == 0) = false := by simpa using h0
   have htz : wrap64 ((tz 16 a0.toNat : Nat) : Int) = ((tz 16 a0.toNat : Nat) : Int) := by
    obtain ⟨t, ht, e1, _⟩ := tz_and hb.1 hb.2 h0
    rw [e1]; unfold wrap64; omega
   clear hb h0
   have HG := Aside0.mk hG
   clear hG
   go_enter Tryd.func49, Tryd.ntmps49
   go_wp2
   go_ret
   exact ⟨by show Ending.returned (Value.int .i64 (wrap64 ((tz 16 a0.toNat : Nat) : Int))) = _; rw [htz], Drawn0.refl _⟩
 ·rw [if_neg hb] at h; cases h

end Go.Proofs.YteffcgocnkcpiaaDoor.Q
