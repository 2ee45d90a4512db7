/- math/bits.OnesCount16 over a set of people, and the numbers of friends. No condition. -/
import Derived.Test.YtipblaifgpnebaaQ0
import Derived.Test.YtipblaifgpnebaaQ14
import Derived.Test.YtipblaifgpnebaaBase
import Derived.Test.YtipblaifgpnebaaInts
import Derived.Test.YtipblaifgpnebaaParty
import Derived.Test.YtipblaifgpnebaaGraph
import Derived.Test.YtipblaifgpnebaaTable
namespace Go.Proofs.Ytipblaifgpnebaa.Plain
open Go.RowKit Go.Proofs.YtipblaifgpnebaaW.PrintWords Go.Proofs.YtipblaifgpnebaaW.PrintLast
set_option linter.unusedVariables false
open Q

/-- How many bits of a number are set. -/
def pop (k m : Nat) : Nat := cnt (fun b => m.testBit b) k

set_option maxRecDepth 100000 in
theorem pop_table : ∀ i : Fin 256, bt (⟨#[0, 1, 1, 2, 1, 2, 2, 3, 1, 2, 2, 3, 2, 3, 3, 4, 1, 2, 2, 3, 2, 3, 3, 4, 2, 3, 3, 4, 3, 4, 4, 5, 1, 2, 2, 3, 2, 3, 3, 4, 2, 3, 3, 4, 3, 4, 4, 5, 2, 3, 3, 4, 3, 4, 4, 5, 3, 4, 4, 5, 4, 5, 5, 6, 1, 2, 2, 3, 2, 3, 3, 4, 2, 3, 3, 4, 3, 4, 4, 5, 2, 3, 3, 4, 3, 4, 4, 5, 3, 4, 4, 5, 4, 5, 5, 6, 2, 3, 3, 4, 3, 4, 4, 5, 3, 4, 4, 5, 4, 5, 5, 6, 3, 4, 4, 5, 4, 5, 5, 6, 4, 5, 5, 6, 5, 6, 6, 7, 1, 2, 2, 3, 2, 3, 3, 4, 2, 3, 3, 4, 3, 4, 4, 5, 2, 3, 3, 4, 3, 4, 4, 5, 3, 4, 4, 5, 4, 5, 5, 6, 2, 3, 3, 4, 3, 4, 4, 5, 3, 4, 4, 5, 4, 5, 5, 6, 3, 4, 4, 5, 4, 5, 5, 6, 4, 5, 5, 6, 5, 6, 6, 7, 2, 3, 3, 4, 3, 4, 4, 5, 3, 4, 4, 5, 4, 5, 5, 6, 3, 4, 4, 5, 4, 5, 5, 6, 4, 5, 5, 6, 5, 6, 6, 7, 3, 4, 4, 5, 4, 5, 5, 6, 4, 5, 5, 6, 5, 6, 6, 7, 4, 5, 5, 6, 5, 6, 6, 7, 5, 6, 6, 7, 6, 7, 7, 8]⟩ : ByteArray) (i.val : Int) = (pop 8 i.val : Int) := by decide +kernel

theorem pop_le (k m : Nat) : pop k m ≤ k := cnt_le _ _
theorem pop_split (m : Nat) : pop 16 m = pop 8 (m / 256) + pop 8 (m % 256) := by
  have h : ∀ k, k ≤ 8 → pop (8 + k) m = pop k (m / 256) + pop 8 m := by
    intro k
    induction k with
    | zero => intro _; simp [pop, cnt_zero]
    | succ k ih =>
      intro hk
      have q := ih (by omega)
      unfold pop at q ⊢
      rw [show 8 + (k + 1) = (8 + k) + 1 by omega, cnt_succ, cnt_succ, q]
      have e : (m / 256).testBit k = m.testBit (8 + k) := by
        rw [show 256 = 2 ^ 8 by rfl, Nat.testBit_div_two_pow, Nat.add_comm]
      rw [e]; omega
  have e2 : pop 8 (m % 256) = pop 8 m := by
    unfold pop
    apply cnt_congr
    intro b hb
    rw [show 256 = 2 ^ 8 by rfl, Nat.testBit_mod_two_pow]
    simp [hb]
  have := h 8 (by omega)
  rw [e2]
  exact this

set_option maxRecDepth 100000 in
theorem onesCount_eq {m : Nat} (h : m < 2 ^ 16) : bits_OnesCount16.f (m : Int) = some ((pop 16 m : Nat) : Int) := by
  unfold bits_OnesCount16.f
  have e1 : (m : Int) / 256 = ((m / 256 : Nat) : Int) := by omega
  have e2 : Go.bits .and .u16 (m : Int) 255 = ((m % 256 : Nat) : Int) := by
    rw [show (255 : Int) = ((255 : Nat) : Int) by rfl, and16 h (by omega), show (255 : Nat) = 2 ^ 8 - 1 by rfl, Nat.and_two_pow_sub_one_eq_mod]
  rw [e1, e2]
  have t1 := pop_table ⟨m / 256, by omega⟩
  have t2 := pop_table ⟨m % 256, by omega⟩
  simp only [] at t1 t2
  rw [if_pos (by omega), if_pos (by omega), if_pos (by omega), if_pos (by omega), t1, t2, pop_split]
  have h1 := pop_le 8 (m / 256)
  have h2 := pop_le 8 (m % 256)
  congr 1
  omega

theorem pop_mask {f : Nat → Bool} {n : Nat} (h : n ≤ 16) : pop 16 (maskOf f n) = cnt f n := by
  unfold pop
  rw [show (16 : Nat) = n + (16 - n) by omega, ← cnt_ext f n (16 - n)]
  apply cnt_congr
  intro b _
  rw [maskOf_bit]

theorem count_mask {f : Nat → Bool} {n : Nat} (h : n ≤ 16) : bits_OnesCount16.f ((maskOf f n : Nat) : Int) = some ((cnt f n : Nat) : Int) := by
  rw [onesCount_eq (mask16 h), pop_mask h]
end Go.Proofs.Ytipblaifgpnebaa.Plain
