import Derived.Test.YtkmhojpnmebfoaaQ0
import Derived.Test.YtkmhojpnmebfoaaQ2
import Derived.Test.YtkmhojpnmebfoaaQ5
import Derived.Test.YtkmhojpnmebfoaaQ8
import Derived.Test.YtkmhojpnmebfoaaQ11
import Derived.Test.YtkmhojpnmebfoaaQ12
import Derived.Test.YtkmhojpnmebfoaaQ13
import Derived.Test.YtkmhojpnmebfoaaQ18
import Derived.Test.YtkmhojpnmebfoaaQ22
import Derived.Test.YtkmhojpnmebfoaaQ46
import Derived.Test.YtkmhojpnmebfoaaQ47
import Derived.Test.YtkmhojpnmebfoaaQ49
import Derived.Test.YtkmhojpnmebfoaaQ55
import Derived.Test.YtkmhojpnmebfoaaSayFnExactOneColourThrees
/- Plain lemmas over rounds, lists and whole numbers, for the pure statements of this seat. No condition. -/
namespace Go.Proofs.Ytkmhojpnmebfoaa.Plain
open Go.RowKit Go.Proofs.YtkmhojpnmebfoaaW.PrintWords Go.Proofs.YtkmhojpnmebfoaaW.PrintLast
set_option linter.unusedVariables false

theorem wrap_id {x : Int} (h0 : -9223372036854775808 ≤ x) (h1 : x ≤ 9223372036854775807) : wrap64 x = x := by
  unfold wrap64
  omega

theorem rd_at {l : List Int} {i : Nat} (h : i < l.length) : rd l (i : Int) = l[i] := by
  simp [rd, List.getD, h]

theorem ev_some {α : Type} {g : Nat → Option α} {r : α} (h : ∀ k, g k = some r) : Ev g r := ⟨0, fun k _ => h k⟩

theorem ev_bind0 {α β : Type} {g : Option α} {f : Nat → α → Option β} {a : α} {r : β} (h : g = some a) (k : Ev (fun n => f n a) r) : Ev (fun n => g.bind (f n)) r := by
  obtain ⟨K, hK⟩ := k
  refine ⟨K, fun n hn => ?_⟩
  show g.bind (f n) = some r
  rw [h]
  exact hK n hn

theorem ev_if {α : Type} {c : Prop} [Decidable c] {f g : Nat → Option α} {r : α} (hf : c → Ev f r) (hg : ¬ c → Ev g r) : Ev (fun n => if c then f n else g n) r := by
  by_cases h : c
  · obtain ⟨K, hK⟩ := hf h
    exact ⟨K, fun n hn => (if_pos h).trans (hK n hn)⟩
  · obtain ⟨K, hK⟩ := hg h
    exact ⟨K, fun n hn => (if_neg h).trans (hK n hn)⟩

/-- A loop over an index, from any index on, in one shape. -/
theorem ev_up {α : Type} {n : Nat} {loop : Nat → Nat → Option α} {r : Nat → α} (hend : Ev (fun k => loop k n) (r n)) (hstep : ∀ i, i < n → (Ev (fun k => loop k (i + 1)) (r (i + 1)) → Ev (fun k => loop k i) (r i))) :
    ∀ i, i ≤ n → Ev (fun k => loop k i) (r i) := by
  intro i hi
  have : ∀ d i, i ≤ n → n - i = d → Ev (fun k => loop k i) (r i) := by
    intro d
    induction d with
    | zero =>
      intro i hi hd
      have e : i = n := by omega
      rw [e]; exact hend
    | succ d ih =>
      intro i hi hd
      exact hstep i (by omega) (ih (i + 1) (by omega) (by omega))
  exact this (n - i) i hi rfl
theorem succ_cast {i n : Nat} (h : i < n) (hn : n ≤ 9223372036854775807) : wrap64 ((i : Int) + 1) = ((i + 1 : Nat) : Int) := by
  rw [wrap_id (by omega) (by omega)]; rfl
end Go.Proofs.Ytkmhojpnmebfoaa.Plain

/- The law's own functions over lists of whole numbers: copies, equality, bounds. No condition but lengths that fit. -/
namespace Go.Proofs.Ytkmhojpnmebfoaa.Plain
open Go.RowKit Go.Proofs.YtkmhojpnmebfoaaW.PrintWords Go.Proofs.YtkmhojpnmebfoaaW.PrintLast
set_option linter.unusedVariables false
open Q

theorem copy_step (l : List Int) (i : Nat) (h : i < l.length) :
    (l.take i ++ List.replicate (l.length - i) (0 : Int)).set ((i : Int)).toNat (rd l (i : Int)) = l.take (i + 1) ++ List.replicate (l.length - (i + 1)) (0 : Int) := by
  have e : l.length - i = (l.length - (i + 1)) + 1 := by omega
  have hl : (l.take i).length = i := by simp; omega
  rw [Int.toNat_natCast, rd_at h, e, List.replicate_succ, List.set_append_right _ _ (by omega), hl, Nat.sub_self, List.set_cons_zero, List.take_succ_eq_append_getElem h, List.append_assoc]
  rfl

theorem toIntS_ev (l : List Int) (h : l.length ≤ 35184372088832) : Ev (fun k => laws_toIntS.f k l) l := by
  refine Ev.congr (f := fun k => laws_toIntS.l0 k l (List.replicate l.length 0) 0) (fun k => ?_) ?_
  · unfold laws_toIntS.f
    rw [if_pos (by omega), if_pos (by omega), Int.toNat_natCast]
  · have q := ev_up (n := l.length) (loop := fun k i => laws_toIntS.l0 k l (l.take i ++ List.replicate (l.length - i) 0) (i : Int)) (r := fun _ => l)
      (Ev.step (f := fun _ => some l) (fun k => by simp [laws_toIntS.l0]) (Ev.now l))
      (fun i hi ih => Ev.step (f := fun k => laws_toIntS.l0 k l (l.take (i + 1) ++ List.replicate (l.length - (i + 1)) 0) ((i + 1 : Nat) : Int)) (fun k => by
        simp only [laws_toIntS.l0]
        rw [if_pos (by omega), if_pos (by omega), if_pos (by simp; omega), copy_step l i hi, succ_cast hi (by omega)]) ih) 0 (Nat.zero_le _)
    simpa using q

theorem eqIntS_ev (l : List Int) (h : l.length ≤ 9223372036854775807) : Ev (fun k => laws_eqIntS.f k l l) true := by
  refine Ev.congr (f := fun k => laws_eqIntS.l0 k l l 0) (fun k => ?_) ?_
  · unfold laws_eqIntS.f
    rw [if_pos rfl]
  · exact ev_up (n := l.length) (loop := fun k i => laws_eqIntS.l0 k l l (i : Int)) (r := fun _ => true)
      (Ev.step (f := fun _ => some true) (fun k => by simp [laws_eqIntS.l0]) (Ev.now true))
      (fun i hi ih => Ev.step (f := fun k => laws_eqIntS.l0 k l l ((i + 1 : Nat) : Int)) (fun k => by
        simp only [laws_eqIntS.l0]
        rw [if_pos (by omega), if_pos (by omega), if_pos (by omega), if_pos trivial, succ_cast hi h]) ih) 0 (Nat.zero_le _)

theorem l1In_eq (a b c : Int) : spec_l1In.f a b c = some (decide (b ≤ a) && decide (a ≤ c)) := by
  unfold spec_l1In.f
  by_cases h : b ≤ a <;> simp [h]

theorem within_eq (a b c : Int) : impl_within.f a b c = some (decide (b ≤ a) && decide (a ≤ c)) := by
  unfold impl_within.f
  by_cases h : b ≤ a <;> simp [h]

theorem l1All_ev (l : List Int) (lo hi : Int) (h : l.length ≤ 9223372036854775807) : Ev (fun k => spec_l1All.f k l lo hi) (l.all fun x => decide (lo ≤ x) && decide (x ≤ hi)) := by
  have q := ev_up (n := l.length) (loop := fun k i => spec_l1All.l0 k lo hi l (l.length : Int) (i : Int)) (r := fun i => (l.drop i).all fun x => decide (lo ≤ x) && decide (x ≤ hi))
    (Ev.step (f := fun _ => some true) (fun k => by simp [spec_l1All.l0]) (by simpa using Ev.now true))
    (fun i hi' ih => by
      have e : (l.drop i).all (fun x => decide (lo ≤ x) && decide (x ≤ hi)) = ((decide (lo ≤ l[i]) && decide (l[i] ≤ hi)) && (l.drop (i + 1)).all fun x => decide (lo ≤ x) && decide (x ≤ hi)) := by
        rw [List.drop_eq_getElem_cons hi', List.all_cons]
      rw [e]
      cases hb : (decide (lo ≤ l[i]) && decide (l[i] ≤ hi)) with
      | true =>
        refine Ev.step (f := fun k => spec_l1All.l0 k lo hi l (l.length : Int) ((i + 1 : Nat) : Int)) (fun k => ?_) (by simpa using ih)
        simp only [spec_l1All.l0]
        rw [if_pos (by omega), if_pos (by omega), if_pos (by omega), l1In_eq, rd_at hi', hb, Option.bind_some, if_pos rfl, succ_cast hi' h]
      | false =>
        refine Ev.step (f := fun _ => some false) (fun k => ?_) (by simpa using Ev.now false)
        simp only [spec_l1All.l0]
        rw [if_pos (by omega), if_pos (by omega), if_pos (by omega), l1In_eq, rd_at hi', hb, Option.bind_some, if_neg (by simp)]) 0 (Nat.zero_le _)
  simpa [spec_l1All.f] using q

theorem szIntS_eq (l : List Int) (a : Int) (h0 : 0 ≤ a) (h1 : a ≤ 1048576) (h : l.length ≤ 9223372036854775807) : laws_szIntS.f l a = some (if a < (l.length : Int) then -1 else a - l.length) := by
  unfold laws_szIntS.f
  rw [wrap_id (by omega) (by omega)]
  by_cases hl : a < (l.length : Int)
  · rw [if_pos (by omega), if_pos hl]
  · rw [if_neg (by omega), if_neg hl]
end Go.Proofs.Ytkmhojpnmebfoaa.Plain

/- Parties: both sides' tests, and the law's own functions over parties. No condition but lengths that fit. -/
namespace Go.Proofs.Ytkmhojpnmebfoaa.Plain
open Go.RowKit Go.Proofs.YtkmhojpnmebfoaaW.PrintWords Go.Proofs.YtkmhojpnmebfoaaW.PrintLast
set_option linter.unusedVariables false
open Q

/-! What a party is, in words of numbers. -/
end Go.Proofs.Ytkmhojpnmebfoaa.Plain

/- A party as a relation between people; sets of people as numbers; how many hold. Plain lemmas. No condition. -/
namespace Go.Proofs.Ytkmhojpnmebfoaa.Plain
open Go.RowKit Go.Proofs.YtkmhojpnmebfoaaW.PrintWords Go.Proofs.YtkmhojpnmebfoaaW.PrintLast
set_option linter.unusedVariables false
open Q

/-! Sets of people as numbers. -/
def maskOf (f : Nat → Bool) : Nat → Nat
  | 0 => 0
  | n + 1 => maskOf f n + (if f n = true then 2 ^ n else 0)

theorem maskOf_lt (f : Nat → Bool) : ∀ n, maskOf f n < 2 ^ n
  | 0 => by simp [maskOf]
  | n + 1 => by
    have := maskOf_lt f n
    unfold maskOf
    rw [Nat.pow_succ]
    split <;> omega

theorem maskOf_bit (f : Nat → Bool) : ∀ n b, (maskOf f n).testBit b = (decide (b < n) && f b)
  | 0, b => by simp [maskOf]
  | n + 1, b => by
    have ih := maskOf_bit f n b
    have hlt := maskOf_lt f n
    unfold maskOf
    by_cases h : f n = true
    · rw [if_pos h, Nat.add_comm]
      rcases Nat.lt_trichotomy b n with hb | rfl | hb
      · rw [Nat.testBit_two_pow_add_gt hb, ih]
        simp [hb, Nat.lt_succ_of_lt hb]
      · rw [Nat.testBit_two_pow_add_eq, Nat.testBit_lt_two_pow hlt]
        simp [h]
      · have h1 : 2 ^ (n + 1) ≤ 2 ^ b := Nat.pow_le_pow_right (by omega) (by omega)
        rw [Nat.pow_succ] at h1
        rw [Nat.testBit_lt_two_pow (by omega)]
        simp; omega
    · rw [if_neg h, Nat.add_zero, ih]
      by_cases e : b = n
      · subst e
        simp [Bool.eq_false_iff.mpr h]
      · have : decide (b < n + 1) = decide (b < n) := by
          apply decide_eq_decide.mpr; omega
        rw [this]

theorem maskOf_congr {f g : Nat → Bool} : ∀ {n}, (∀ b, b < n → f b = g b) → maskOf f n = maskOf g n
  | 0, _ => rfl
  | n + 1, h => by
    unfold maskOf
    rw [maskOf_congr (n := n) (fun b hb => h b (by omega)), h n (by omega)]

theorem mask_or (f g : Nat → Bool) (n : Nat) : maskOf f n ||| maskOf g n = maskOf (fun b => f b || g b) n := by
  apply Nat.eq_of_testBit_eq
  intro b
  rw [Nat.testBit_or, maskOf_bit, maskOf_bit, maskOf_bit]
  cases decide (b < n) <;> simp
theorem mask_one {n b : Nat} (h : b < n) : (2 ^ b : Nat) = maskOf (fun c => decide (c = b)) n := by
  apply Nat.eq_of_testBit_eq
  intro c
  rw [Nat.testBit_two_pow, maskOf_bit]
  by_cases e : b = c
  · subst e; simp [h]
  · have : ¬ (c = b) := fun q => e q.symm
    simp [e, this]

/-! How many hold. -/
end Go.Proofs.Ytkmhojpnmebfoaa.Plain

/- The program's table of a party: for each person its friends, as the bits of a number. No condition but lengths that fit. -/
namespace Go.Proofs.Ytkmhojpnmebfoaa.Plain
open Go.RowKit Go.Proofs.YtkmhojpnmebfoaaW.PrintWords Go.Proofs.YtkmhojpnmebfoaaW.PrintLast
set_option linter.unusedVariables false
open Q

theorem wraps_u16 (n : Int) (h₀ : 0 ≤ n) (h₁ : n < 2 ^ 16) : IntKind.u16.wrap n = n := by
  have : IntKind.u16.wrap n = n % 65536 := by simp [IntKind.wrap, IntKind.bits, IntKind.signed]
  rw [this]; omega
theorem or16 {a b : Nat} (ha : a < 2 ^ 16) (hb : b < 2 ^ 16) : Go.bits .or .u16 (a : Int) (b : Int) = ((a ||| b : Nat) : Int) := (bits_nat .u16 16 (by decide) wraps_u16 a b ha hb).2
theorem and16 {a b : Nat} (ha : a < 2 ^ 16) (hb : b < 2 ^ 16) : Go.bits .and .u16 (a : Int) (b : Int) = ((a &&& b : Nat) : Int) := (bits_nat .u16 16 (by decide) wraps_u16 a b ha hb).1
theorem shl16 {b : Nat} (hb : b < 16) : shl .u16 1 (b : Int) = ((2 ^ b : Nat) : Int) := by
  unfold shl
  have h1 : min ((b : Int)).toNat IntKind.u16.bits = b := by
    rw [Int.toNat_natCast]
    exact Nat.min_eq_left (by show b ≤ 16; omega)
  rw [h1, Int.one_mul, wraps_u16]
  · simp
  · exact Int.pow_nonneg (by decide)
  · have : (2 : Nat) ^ b < 2 ^ 16 := Nat.pow_lt_pow_right (by omega) hb
    exact_mod_cast this

/-- The table of a relation of n people. -/
def tabF (n : Nat) (f : Nat → Nat → Bool) : List Int := (List.range n).map fun a => ((maskOf (f a) n : Nat) : Int)
theorem tabF_length (n : Nat) (f : Nat → Nat → Bool) : (tabF n f).length = n := by simp [tabF]
theorem tabF_get {n : Nat} {f : Nat → Nat → Bool} {a : Nat} (h : a < n) : rd (tabF n f) (a : Int) = ((maskOf (f a) n : Nat) : Int) := by
  rw [rd_at (by rw [tabF_length]; exact h)]
  simp [tabF]
theorem mask16 {f : Nat → Bool} {n : Nat} (h : n ≤ 16) : maskOf f n < 2 ^ 16 := Nat.lt_of_lt_of_le (maskOf_lt f n) (Nat.pow_le_pow_right (by omega) h)

/-- The relation with two people made friends. -/
def withP (f : Nat → Nat → Bool) (a b : Nat) : Nat → Nat → Bool := fun c d => f c d || ((decide (c = a) && decide (d = b)) || (decide (c = b) && decide (d = a)))

/-- One pair put into the table, as both the loop and 'put' do it. -/
theorem tab_put {n : Nat} (hn : n ≤ 16) (f : Nat → Nat → Bool) {a b : Nat} (ha : a < n) (hb : b < n) (hab : a ≠ b) :
    ((tabF n f).set a (Go.bits .or .u16 (rd (tabF n f) (a : Int)) (shl .u16 1 (b : Int)))).set b
      (Go.bits .or .u16 (rd ((tabF n f).set a (Go.bits .or .u16 (rd (tabF n f) (a : Int)) (shl .u16 1 (b : Int)))) (b : Int)) (shl .u16 1 (a : Int))) = tabF n (withP f a b) := by
  have e1 : Go.bits .or .u16 (rd (tabF n f) (a : Int)) (shl .u16 1 (b : Int)) = ((maskOf (withP f a b a) n : Nat) : Int) := by
    rw [tabF_get ha, shl16 (by omega), or16 (mask16 hn) (Nat.pow_lt_pow_right (by omega) (by omega)), mask_one hb, mask_or]
    congr 1
    apply maskOf_congr
    intro c _
    unfold withP
    simp [hab]
  have e2 : rd ((tabF n f).set a (Go.bits .or .u16 (rd (tabF n f) (a : Int)) (shl .u16 1 (b : Int)))) (b : Int) = ((maskOf (f b) n : Nat) : Int) := by
    rw [rd_at (by rw [List.length_set, tabF_length]; exact hb), List.getElem_set_ne hab]
    simp [tabF]
  have e3 : Go.bits .or .u16 ((maskOf (f b) n : Nat) : Int) (shl .u16 1 (a : Int)) = ((maskOf (withP f a b b) n : Nat) : Int) := by
    rw [shl16 (by omega), or16 (mask16 hn) (Nat.pow_lt_pow_right (by omega) (by omega)), mask_one ha, mask_or]
    congr 1
    apply maskOf_congr
    intro c _
    unfold withP
    simp [show ¬ (b = a) from fun q => hab q.symm]
  rw [e2, e3, e1]
  apply List.ext_getElem
  · simp [tabF_length]
  · intro i h1 h2
    rw [tabF_length] at h2
    rw [List.getElem_set, List.getElem_set]
    by_cases i1 : b = i
    · subst i1
      rw [if_pos rfl]
      simp [tabF]
    · rw [if_neg i1]
      by_cases i2 : a = i
      · subst i2
        rw [if_pos rfl]
        simp [tabF]
      · rw [if_neg i2]
        simp only [tabF, List.getElem_map, List.getElem_range]
        congr 1
        apply maskOf_congr
        intro c _
        unfold withP
        simp [show ¬ (i = a) from fun q => i2 q.symm, show ¬ (i = b) from fun q => i1 q.symm]

end Go.Proofs.Ytkmhojpnmebfoaa.Plain

/- The reference's table of a party: for each person, of each person, whether they are friends. No condition but lengths that fit. -/
namespace Go.Proofs.Ytkmhojpnmebfoaa.Plain
open Go.RowKit Go.Proofs.YtkmhojpnmebfoaaW.PrintWords Go.Proofs.YtkmhojpnmebfoaaW.PrintLast
set_option linter.unusedVariables false
open Q

end Go.Proofs.Ytkmhojpnmebfoaa.Plain

/- The party of a table, on both sides. No condition but that there are at most twelve people. -/
namespace Go.Proofs.Ytkmhojpnmebfoaa.Plain
open Go.RowKit Go.Proofs.YtkmhojpnmebfoaaW.PrintWords Go.Proofs.YtkmhojpnmebfoaaW.PrintLast
set_option linter.unusedVariables false
open Q

theorem has_eq {n : Nat} (hn : n ≤ 12) (f : Nat → Nat → Bool) {a b : Nat} (ha : a < n) (hb : b < n) : impl_table_has.f (tabF n f) (a : Int) (b : Int) = some (f a b) := by
  unfold impl_table_has.f
  rw [if_pos (by omega), if_pos (by rw [tabF_length]; omega), if_pos (by omega), tabF_get ha]
  have hm := mask16 (f := f a) (n := n) (by omega)
  have e1 : shr .u16 ((maskOf (f a) n : Nat) : Int) (b : Int) = ((maskOf (f a) n / 2 ^ b : Nat) : Int) := by
    unfold shr
    have h1 : min ((b : Int)).toNat IntKind.u16.bits = b := by
      rw [Int.toNat_natCast]
      exact Nat.min_eq_left (by show b ≤ 16; omega)
    rw [h1]
    simp
  have hlt : maskOf (f a) n / 2 ^ b < 2 ^ 16 := Nat.lt_of_le_of_lt (Nat.div_le_self _ _) hm
  have e2 : Go.bits .and .u16 ((maskOf (f a) n / 2 ^ b : Nat) : Int) 1 = (((maskOf (f a) n / 2 ^ b) % 2 : Nat) : Int) := by
    rw [show (1 : Int) = ((1 : Nat) : Int) by rfl, and16 hlt (by omega), Nat.and_one_is_mod]
  rw [e1, e2]
  have hb2 := maskOf_bit (f a) n b
  rw [Nat.testBit_eq_decide_div_mod_eq, decide_eq_true hb, Bool.true_and] at hb2
  congr 1
  rw [← hb2, Bool.eq_iff_iff, beq_iff_eq, decide_eq_true_eq]
  omega

end Go.Proofs.Ytkmhojpnmebfoaa.Plain

/- A symmetric relation put into a table row by row, each pair once; the pairs of a relation. No condition. -/
namespace Go.Proofs.Ytkmhojpnmebfoaa.Plain
open Go.RowKit Go.Proofs.YtkmhojpnmebfoaaW.PrintWords Go.Proofs.YtkmhojpnmebfoaaW.PrintLast
set_option linter.unusedVariables false
open Q

/-- A relation, when the rows before i and j cells of row i are seen. -/
def seenG (g : Nat → Nat → Bool) (i j : Nat) : Nat → Nat → Bool := fun a b => g a b && decide ((b < a ∧ (a < i ∨ (a = i ∧ b < j))) ∨ (a < b ∧ (b < i ∨ (b = i ∧ a < j))))
theorem seenG_yes {g : Nat → Nat → Bool} (hg : ∀ a b, g a b = g b a) {i j : Nat} (hj : j < i) (h : g i j = true) : withP (seenG g i j) i j = seenG g i (j + 1) := by
  funext c d
  unfold withP seenG
  by_cases h1 : c = i ∧ d = j
  · obtain ⟨rfl, rfl⟩ := h1
    rw [h]
    simp [hj]
  · by_cases h2 : c = j ∧ d = i
    · obtain ⟨rfl, rfl⟩ := h2
      rw [hg c d, h]
      simp [hj]
    · have e1 : (decide (c = i) && decide (d = j)) = false := by rw [Bool.eq_false_iff]; intro q; exact h1 (by simpa using q)
      have e2 : (decide (c = j) && decide (d = i)) = false := by rw [Bool.eq_false_iff]; intro q; exact h2 (by simpa using q)
      rw [e1, e2, Bool.or_false, Bool.or_false]
      congr 1
      apply decide_eq_decide.mpr
      omega
theorem seenG_no {g : Nat → Nat → Bool} (hg : ∀ a b, g a b = g b a) {i j : Nat} (hj : j < i) (h : g i j = false) : seenG g i j = seenG g i (j + 1) := by
  funext c d
  unfold seenG
  by_cases h1 : c = i ∧ d = j
  · obtain ⟨rfl, rfl⟩ := h1
    rw [h]; rfl
  · by_cases h2 : c = j ∧ d = i
    · obtain ⟨rfl, rfl⟩ := h2
      rw [hg c d, h]; rfl
    · congr 1
      apply decide_eq_decide.mpr
      omega
theorem seenG_row (g : Nat → Nat → Bool) (i : Nat) : seenG g i i = seenG g (i + 1) 0 := by
  funext c d
  unfold seenG
  congr 1
  apply decide_eq_decide.mpr
  omega
theorem seenG_zero (g : Nat → Nat → Bool) : seenG g 0 0 = fun _ _ => false := by
  funext c d
  unfold seenG
  rw [decide_eq_false (by omega), Bool.and_false]
end Go.Proofs.Ytkmhojpnmebfoaa.Plain

/- Paintings: both sides' tests, and the law's own functions over paintings. No condition but lengths that fit. -/
namespace Go.Proofs.Ytkmhojpnmebfoaa.Plain
open Go.RowKit Go.Proofs.YtkmhojpnmebfoaaW.PrintWords Go.Proofs.YtkmhojpnmebfoaaW.PrintLast
set_option linter.unusedVariables false
open Q

/-- A painting: so many people, so many colours, a colour for each pair. -/
def painted (n c : Int) (l : List Int) : Bool := (decide (0 ≤ n) && decide (n ≤ 8)) && ((decide (1 ≤ c) && decide (c ≤ 3)) && (decide ((l.length : Int) = n * (n - 1) / 2) && l.all fun x => decide (0 ≤ x) && decide (x ≤ c - 1)))

theorem szPainting_eq (n c : Int) (l : List Int) (a : Int) (h0 : 0 ≤ a) (h1 : a ≤ 1048576) (h : l.length ≤ 9223372036854775807) : laws_szPainting.f n c l a = some (if a < (l.length : Int) then -1 else a - l.length) := by
  unfold laws_szPainting.f
  rw [szIntS_eq l a h0 h1 h, Option.bind_some]
  by_cases hl : a < (l.length : Int)
  · rw [if_pos hl, if_pos (by omega)]
  · rw [if_neg hl, if_neg (by omega)]

theorem toPainting_ev (n c : Int) (l : List Int) (h : l.length ≤ 35184372088832) : Ev (fun k => laws_toPainting.f k n c l) (n, c, l) := by
  refine Ev.bind (f := fun _ t => some (n, c, t)) (toIntS_ev l h) (Ev.now _)

theorem eqPainting_ev (n c : Int) (l : List Int) (h : l.length ≤ 9223372036854775807) : Ev (fun k => laws_eqPainting.f k n c l n c l) true := by
  refine Ev.congr (f := fun k => (laws_eqIntS.f k l l).bind fun t => if t = true then some true else some false) (fun k => ?_) ?_
  · unfold laws_eqPainting.f
    rw [if_pos rfl, if_pos rfl]
  · exact Ev.bind (f := fun _ t => if t = true then some true else some false) (eqIntS_ev l h) (ev_some (fun _ => rfl))

theorem pairs_of {n : Int} (h0 : 0 ≤ n) (h1 : n ≤ 8) : wrap64 (Int.tdiv (wrap64 (n * (wrap64 (n - 1)))) 2) = n * (n - 1) / 2 := by
  have : n = 0 ∨ n = 1 ∨ n = 2 ∨ n = 3 ∨ n = 4 ∨ n = 5 ∨ n = 6 ∨ n = 7 ∨ n = 8 := by omega
  rcases this with rfl | rfl | rfl | rfl | rfl | rfl | rfl | rfl | rfl <;> decide +kernel

theorem choose_two {n : Int} (h0 : 0 ≤ n) (h1 : n ≤ 8) : Ev (fun k => impl_choose.f k n 2) (n * (n - 1) / 2) := by
  refine Ev.of (fun k => impl_choose.mono n 2 k) (k := 10) ?_
  have : n = 0 ∨ n = 1 ∨ n = 2 ∨ n = 3 ∨ n = 4 ∨ n = 5 ∨ n = 6 ∨ n = 7 ∨ n = 8 := by omega
  rcases this with rfl | rfl | rfl | rfl | rfl | rfl | rfl | rfl | rfl <;> decide +kernel

theorem ptGood_ev (n c : Int) (l : List Int) (h : l.length ≤ 9223372036854775807) : Ev (fun k => spec_ptGood.f k n c l) (painted n c l) := by
  unfold spec_ptGood.f
  refine ev_bind0 (l1In_eq _ _ _) ?_
  refine ev_if (fun b1 => ?_) (fun b1 => ?_)
  · refine ev_bind0 (l1In_eq _ _ _) ?_
    refine ev_if (fun b2 => ?_) (fun b2 => ?_)
    · have c1 : 0 ≤ n ∧ n ≤ 8 := by simpa using b1
      have c2 : 1 ≤ c ∧ c ≤ 3 := by simpa using b2
      rw [pairs_of c1.1 c1.2, wrap_id (x := c - 1) (by omega) (by omega)]
      refine ev_if (fun b3 => ?_) (fun b3 => ?_)
      · have e : painted n c l = l.all fun x => decide (0 ≤ x) && decide (x ≤ c - 1) := by
          unfold painted
          rw [b1, b2, decide_eq_true b3]; simp
        rw [e]
        exact Ev.bind (f := fun _ t => some t) (l1All_ev l _ _ h) (Ev.now _)
      · have e : painted n c l = false := by
          unfold painted
          rw [decide_eq_false b3]; simp
        rw [e]; exact Ev.now _
    · have e : painted n c l = false := by
        unfold painted
        rw [Bool.eq_false_iff.mpr b2]; simp
      rw [e]; exact Ev.now _
  · have e : painted n c l = false := by
      unfold painted
      rw [Bool.eq_false_iff.mpr b1]; simp
    rw [e]; exact Ev.now _

theorem isPainting_ev (n c : Int) (l : List Int) (h : l.length ≤ 9223372036854775807) : Ev (fun k => impl_IsPainting.f k n c l) (painted n c l) := by
  unfold impl_IsPainting.f
  have hp : impl_isPainted.f n c = some ((decide (0 ≤ n) && decide (n ≤ 8)) && (decide (1 ≤ c) && decide (c ≤ 3))) := by
    unfold impl_isPainted.f
    rw [within_eq, within_eq, Option.bind_some]
    cases (decide (0 ≤ n) && decide (n ≤ 8)) <;> simp
  refine ev_bind0 hp ?_
  refine ev_if (fun b1 => ?_) (fun b1 => ?_)
  · have c1 : (0 ≤ n ∧ n ≤ 8) ∧ (1 ≤ c ∧ c ≤ 3) := by simpa using b1
    refine Ev.bind (choose_two c1.1.1 c1.1.2) ?_
    rw [wrap_id (x := c - 1) (by omega) (by omega)]
    refine ev_if (fun b3 => ?_) (fun b3 => ?_)
    · have e : painted n c l = l.all fun x => decide (0 ≤ x) && decide (x ≤ c - 1) := by
        unfold painted
        rw [← Bool.and_assoc, b1, decide_eq_true b3]; simp
      rw [e]
      exact ev_some (fun _ => rfl)
    · have e : painted n c l = false := by
        unfold painted
        rw [decide_eq_false b3]; simp
      rw [e]; exact Ev.now _
  · have e : painted n c l = false := by
      unfold painted
      rw [← Bool.and_assoc, Bool.eq_false_iff.mpr b1]; simp
    rw [e]; exact Ev.now _
end Go.Proofs.Ytkmhojpnmebfoaa.Plain

/- The place of a pair among the pairs of a painting, and its colour, on both sides. No condition but lengths that fit. -/
namespace Go.Proofs.Ytkmhojpnmebfoaa.Plain
open Go.RowKit Go.Proofs.YtkmhojpnmebfoaaW.PrintWords Go.Proofs.YtkmhojpnmebfoaaW.PrintLast
set_option linter.unusedVariables false
open Q

/-- The place of a pair among those of n people. -/
def placeOf (n a b : Int) : Int := if a > b then b * (2 * n - b - 1) / 2 + a - b - 1 else a * (2 * n - a - 1) / 2 + b - a - 1

theorem place_all : ∀ n : Fin 9, ∀ a : Fin 9, ∀ b : Fin 9, a.val < n.val → b.val < n.val → a.val ≠ b.val →
    spec_ptAt.f (n.val : Int) (a.val : Int) (b.val : Int) = some (placeOf n.val a.val b.val) ∧ impl_place.f (n.val : Int) (a.val : Int) (b.val : Int) = some (placeOf n.val a.val b.val) ∧
      0 ≤ placeOf n.val a.val b.val ∧ placeOf n.val a.val b.val < (n.val : Int) * ((n.val : Int) - 1) / 2 := by decide +kernel

/-- Two different people of a painting. -/
def two (n c : Int) (l : List Int) (a b : Int) : Bool := painted n c l && ((decide (0 ≤ a) && decide (a ≤ n - 1)) && ((decide (0 ≤ b) && decide (b ≤ n - 1)) && (a != b)))

theorem painted_of {n c : Int} {l : List Int} (h : painted n c l = true) : 0 ≤ n ∧ n ≤ 8 ∧ 1 ≤ c ∧ c ≤ 3 ∧ (l.length : Int) = n * (n - 1) / 2 ∧ ∀ x ∈ l, 0 ≤ x ∧ x ≤ c - 1 := by
  unfold painted at h
  simp only [Bool.and_eq_true, decide_eq_true_eq, List.all_eq_true] at h
  obtain ⟨⟨h1, h2⟩, ⟨h3, h4⟩, h5, h6⟩ := h
  exact ⟨h1, h2, h3, h4, h5, h6⟩

theorem two_of {n c : Int} {l : List Int} {a b : Int} (h : two n c l a b = true) : painted n c l = true ∧ (0 ≤ a ∧ a ≤ n - 1) ∧ (0 ≤ b ∧ b ≤ n - 1) ∧ a ≠ b := by
  unfold two at h
  simp only [Bool.and_eq_true, decide_eq_true_eq, bne_iff_ne, ne_eq] at h
  obtain ⟨h0, h1, h2, h3⟩ := h
  exact ⟨h0, h1, h2, h3⟩

theorem place_two {n c : Int} {l : List Int} {a b : Int} (h : two n c l a b = true) :
    spec_ptAt.f n a b = some (placeOf n a b) ∧ impl_place.f n a b = some (placeOf n a b) ∧ 0 ≤ placeOf n a b ∧ placeOf n a b < (l.length : Int) := by
  obtain ⟨hp, h1, h2, h3⟩ := two_of h
  obtain ⟨p1, p2, _, _, p5, _⟩ := painted_of hp
  have q := place_all ⟨n.toNat, by omega⟩ ⟨a.toNat, by omega⟩ ⟨b.toNat, by omega⟩ (by show a.toNat < n.toNat; omega) (by show b.toNat < n.toNat; omega) (by show a.toNat ≠ b.toNat; omega)
  have en : ((n.toNat : Nat) : Int) = n := by omega
  have ea : ((a.toNat : Nat) : Int) = a := by omega
  have eb : ((b.toNat : Nat) : Int) = b := by omega
  simp only [en, ea, eb] at q
  rw [p5]
  exact q

theorem ptOf_eq {n c : Int} {l : List Int} {a b : Int} (h : two n c l a b = true) : spec_ptOf.f n c l a b = some (rd l (placeOf n a b)) := by
  obtain ⟨h1, _, h3, h4⟩ := place_two h
  unfold spec_ptOf.f
  rw [h1, Option.bind_some, if_pos h3, if_pos h4]

theorem of_eq {n c : Int} {l : List Int} {a b : Int} (h : two n c l a b = true) : impl_Painting_of.f n c l a b = some (rd l (placeOf n a b)) := by
  obtain ⟨_, h2, h3, h4⟩ := place_two h
  unfold impl_Painting_of.f
  rw [h2, Option.bind_some, if_pos h3, if_pos h4]

end Go.Proofs.Ytkmhojpnmebfoaa.Plain

/- One pair put into a table, on both sides; the empty tables. No condition but that there are at most twelve people. -/
namespace Go.Proofs.Ytkmhojpnmebfoaa.Plain
open Go.RowKit Go.Proofs.YtkmhojpnmebfoaaW.PrintWords Go.Proofs.YtkmhojpnmebfoaaW.PrintLast
set_option linter.unusedVariables false
open Q

theorem put_eq {n : Nat} (hn : n ≤ 12) (f : Nat → Nat → Bool) {a b : Nat} (ha : a < n) (hb : b < n) (hab : a ≠ b) : impl_table_put.f (tabF n f) (a : Int) (b : Int) = some (tabF n (withP f a b)) := by
  have h := tab_put (n := n) (by omega) f ha hb hab
  unfold impl_table_put.f
  rw [if_pos (by omega), if_pos (by rw [tabF_length]; omega), if_pos (by omega), Option.bind_some, if_pos (by rw [tabF_length]; omega), Int.toNat_natCast, Int.toNat_natCast, h]

theorem tabF_zero (n : Nat) : List.replicate n 0 = tabF n (fun _ _ => false) := by
  have hz : ∀ m, maskOf (fun _ => false) m = 0 := by
    intro m
    induction m with
    | zero => rfl
    | succ m ih => unfold maskOf; rw [ih]; simp
  symm
  unfold tabF
  rw [List.eq_replicate_iff]
  refine ⟨by simp, fun b hb => ?_⟩
  obtain ⟨a, _, rfl⟩ := List.mem_map.1 hb
  rw [hz]; rfl

end Go.Proofs.Ytkmhojpnmebfoaa.Plain

/- The party of a colour, on both sides. No condition but a painting. -/
namespace Go.Proofs.Ytkmhojpnmebfoaa.Plain
open Go.RowKit Go.Proofs.YtkmhojpnmebfoaaW.PrintWords Go.Proofs.YtkmhojpnmebfoaaW.PrintLast
set_option linter.unusedVariables false
open Q

/-- Who is joined in a colour. -/
def colF (n : Nat) (l : List Int) (q : Int) : Nat → Nat → Bool := fun a b => decide (rd l (placeOf (n : Int) (a : Int) (b : Int)) = q)
theorem colF_comm (n : Nat) (l : List Int) (q : Int) (a b : Nat) : colF n l q a b = colF n l q b a := by
  unfold colF placeOf
  by_cases h : (a : Int) > (b : Int)
  · rw [if_pos h, if_neg (by omega)]
  · by_cases h2 : (b : Int) > (a : Int)
    · rw [if_neg h, if_pos h2]
    · have : a = b := by omega
      subst this; rfl

theorem two_in {n : Nat} {c : Int} {l : List Int} (h : painted (n : Int) c l = true) {a b : Nat} (ha : a < n) (hb : b < n) (hab : a ≠ b) : two (n : Int) c l (a : Int) (b : Int) = true := by
  unfold two
  rw [h]
  simp only [Bool.true_and, Bool.and_eq_true, decide_eq_true_eq, bne_iff_ne, ne_eq]
  refine ⟨⟨by omega, by omega⟩, ⟨by omega, by omega⟩, by omega⟩

theorem inColour_ev {n : Nat} {c : Int} {l : List Int} (hp : painted (n : Int) c l = true) (q : Int) : Ev (fun k => impl_Painting_inColour.f k (n : Int) c l q) (tabF n (seenG (colF n l q) n 0)) := by
  have hn : n ≤ 8 := by have := (painted_of hp).2.1; omega
  have hg := colF_comm n l q
  have q1 := ev_up (n := n) (loop := fun k i => impl_Painting_inColour.l0 k q (tabF n (seenG (colF n l q) i 0)) (n : Int) (i : Int) (n : Int) c l) (r := fun _ => tabF n (seenG (colF n l q) n 0))
    (Ev.step (f := fun _ => some (tabF n (seenG (colF n l q) n 0))) (fun k => by simp only [impl_Painting_inColour.l0]; rw [if_neg (by omega)]) (Ev.now _))
    (fun i hi ih => by
      have q2 := ev_up (n := i) (loop := fun k j => impl_Painting_inColour.l1 k q (tabF n (seenG (colF n l q) i j)) (i : Int) (n : Int) (i : Int) (i : Int) (j : Int) (n : Int) c l) (r := fun _ => tabF n (seenG (colF n l q) n 0))
        (by
          refine Ev.step (f := fun k => impl_Painting_inColour.l0 k q (tabF n (seenG (colF n l q) (i + 1) 0)) (n : Int) ((i + 1 : Nat) : Int) (n : Int) c l) (fun k => ?_) ih
          simp only [impl_Painting_inColour.l1]
          rw [if_neg (by omega), seenG_row, succ_cast hi (by omega)])
        (fun j hj ih2 => by
          have hjn : j < n := by omega
          have hof := of_eq (two_in hp hi hjn (by omega))
          refine Ev.step (f := fun k => impl_Painting_inColour.l1 k q (tabF n (seenG (colF n l q) i (j + 1))) (i : Int) (n : Int) (i : Int) (i : Int) ((j + 1 : Nat) : Int) (n : Int) c l) (fun k => ?_) ih2
          simp only [impl_Painting_inColour.l1]
          rw [if_pos (by omega), hof, Option.bind_some]
          by_cases c1 : rd l (placeOf (n : Int) (i : Int) (j : Int)) = q
          · rw [if_pos c1, put_eq (by omega) _ hi hjn (by omega), Option.bind_some, succ_cast hj (by omega), seenG_yes hg hj (decide_eq_true c1)]
          · rw [if_neg c1, succ_cast hj (by omega), seenG_no hg hj (decide_eq_false c1)]) 0 (Nat.zero_le _)
      refine Ev.step (f := fun k => impl_Painting_inColour.l1 k q (tabF n (seenG (colF n l q) i 0)) (i : Int) (n : Int) (i : Int) (i : Int) 0 (n : Int) c l) (fun k => ?_) (by simpa using q2)
      simp only [impl_Painting_inColour.l0]
      rw [if_pos (by omega)]) 0 (Nat.zero_le _)
  rw [seenG_zero] at q1
  refine Ev.congr (f := fun k => impl_Painting_inColour.l0 k q (tabF n (fun _ _ => false)) (n : Int) 0 (n : Int) c l) (fun k => ?_) q1
  unfold impl_Painting_inColour.f
  rw [if_pos (by omega), Int.toNat_natCast, if_pos (by omega), Option.bind_some, tabF_zero, tabF_length]
end Go.Proofs.Ytkmhojpnmebfoaa.Plain

/- The law's own functions over lists of lists of whole numbers. No condition but lengths that fit. -/
namespace Go.Proofs.Ytkmhojpnmebfoaa.Plain
open Go.RowKit Go.Proofs.YtkmhojpnmebfoaaW.PrintWords Go.Proofs.YtkmhojpnmebfoaaW.PrintLast
set_option linter.unusedVariables false
open Q

theorem rdL_at {l : List (List Int)} {i : Nat} (h : i < l.length) : rd_L1 l (i : Int) = l[i] := by
  simp [rd_L1, List.getD, h]

theorem eqIntSS_ev (l : List (List Int)) (h : l.length ≤ 9223372036854775807) (hx : ∀ x ∈ l, x.length ≤ 9223372036854775807) : Ev (fun k => laws_eqIntSS.f k l l) true := by
  refine Ev.congr (f := fun k => laws_eqIntSS.l0 k l l 0) (fun k => ?_) ?_
  · unfold laws_eqIntSS.f
    rw [if_pos rfl]
  · exact ev_up (n := l.length) (loop := fun k i => laws_eqIntSS.l0 k l l (i : Int)) (r := fun _ => true)
      (Ev.step (f := fun _ => some true) (fun k => by simp [laws_eqIntSS.l0]) (Ev.now true))
      (fun i hi ih => by
        refine Ev.step (f := fun k => (laws_eqIntS.f k l[i] l[i]).bind fun t => if t = true then laws_eqIntSS.l0 k l l ((i + 1 : Nat) : Int) else some false) (fun k => ?_) ?_
        · simp only [laws_eqIntSS.l0]
          rw [if_pos (by omega), if_pos (by omega), if_pos (by omega), rdL_at hi, succ_cast hi h]
        · refine Ev.bind (eqIntS_ev l[i] (hx _ (List.getElem_mem hi))) ?_
          exact ev_if (fun _ => ih) (fun h => absurd rfl h)) 0 (Nat.zero_le _)
end Go.Proofs.Ytkmhojpnmebfoaa.Plain

/- The laws' marks: written into a list and found again. No condition but a length that fits. -/
namespace Go.Proofs.Ytkmhojpnmebfoaa.Plain
open Go.RowKit Go.Proofs.YtkmhojpnmebfoaaW.PrintWords Go.Proofs.YtkmhojpnmebfoaaW.PrintLast
set_option linter.unusedVariables false
open Q

/-- The marks of n numbers from v on. -/
def marksI (v : Int) (n : Nat) : List Int := (List.range n).map fun i : Nat => v + (i : Int)
theorem marksI_length (v : Int) (n : Nat) : (marksI v n).length = n := by simp [marksI]
theorem marksI_get {v : Int} {n i : Nat} (h : i < (marksI v n).length) : (marksI v n)[i] = v + (i : Int) := by simp [marksI]

theorem marksI_step (v : Int) (l : List Int) {i : Nat} (hi : i < l.length) : (marksI v i ++ l.drop i).set i (v + (i : Int)) = marksI v (i + 1) ++ l.drop (i + 1) := by
  apply List.ext_getElem
  · simp [marksI_length]; omega
  · intro j h1 h2
    rw [List.getElem_set]
    by_cases e : i = j
    · subst e
      rw [if_pos rfl, List.getElem_append_left (by rw [marksI_length]; omega), marksI_get]
    · rw [if_neg e]
      by_cases c : j < i
      · rw [List.getElem_append_left (by rw [marksI_length]; omega), List.getElem_append_left (by rw [marksI_length]; omega), marksI_get, marksI_get]
      · rw [List.getElem_append_right (by rw [marksI_length]; omega), List.getElem_append_right (by rw [marksI_length]; omega), List.getElem_drop, List.getElem_drop]
        congr 1
        rw [marksI_length, marksI_length]
        omega

theorem markIntS_ev (l : List Int) (v : Int) (h : l.length ≤ 1152921504606846976) (h0 : 0 ≤ v) (h1 : v ≤ 1152921504606846976) : Ev (fun k => laws_markIntS.f k l v) (v + (l.length : Int), marksI v l.length) := by
  have q := ev_up (n := l.length) (loop := fun k i => laws_markIntS.l0 k (marksI v i ++ l.drop i) (v + (i : Int)) (i : Int)) (r := fun _ => (v + (l.length : Int), marksI v l.length))
    (by
      refine Ev.step (f := fun _ => some (v + (l.length : Int), marksI v l.length)) (fun k => ?_) (Ev.now _)
      simp only [laws_markIntS.l0]
      rw [List.drop_length, List.append_nil, if_neg (by rw [marksI_length]; omega)])
    (fun i hi ih => by
      have hlen : (marksI v i ++ l.drop i).length = l.length := by rw [List.length_append, marksI_length, List.length_drop]; omega
      have w1 : wrap64 (v + (i : Int) + 1) = v + ((i + 1 : Nat) : Int) := by rw [wrap_id (by omega) (by omega)]; omega
      refine Ev.step (f := fun k => laws_markIntS.l0 k (marksI v (i + 1) ++ l.drop (i + 1)) (v + ((i + 1 : Nat) : Int)) ((i + 1 : Nat) : Int)) (fun k => ?_) ih
      simp only [laws_markIntS.l0]
      rw [if_pos (by rw [hlen]; omega), if_pos (by omega), w1, succ_cast hi (by omega), Int.toNat_natCast, marksI_step v l hi]) 0 (Nat.zero_le _)
  have e : marksI v 0 ++ l.drop 0 = l := by simp [marksI]
  rw [e] at q
  simpa [laws_markIntS.f] using q

theorem heldIntS_ev (n : Nat) (v : Int) (h : n ≤ 1152921504606846976) (h0 : 0 ≤ v) (h1 : v ≤ 1152921504606846976) : Ev (fun k => laws_heldIntS.f k (marksI v n) v) (v + (n : Int)) := by
  have hl := marksI_length v n
  have q := ev_up (n := n) (loop := fun k i => laws_heldIntS.l0 k (marksI v n) (v + (i : Int)) (i : Int)) (r := fun _ => v + (n : Int))
    (Ev.step (f := fun _ => some (v + (n : Int))) (fun k => by simp only [laws_heldIntS.l0]; rw [if_neg (by rw [hl]; omega)]) (Ev.now _))
    (fun i hi ih => by
      have w1 : wrap64 (v + (i : Int) + 1) = v + ((i + 1 : Nat) : Int) := by rw [wrap_id (by omega) (by omega)]; omega
      refine Ev.step (f := fun k => laws_heldIntS.l0 k (marksI v n) (v + ((i + 1 : Nat) : Int)) ((i + 1 : Nat) : Int)) (fun k => ?_) ih
      simp only [laws_heldIntS.l0]
      rw [if_pos (by rw [hl]; omega), if_pos (by omega), rd_at (by rw [hl]; exact hi), marksI_get, if_pos rfl, w1, succ_cast hi (by omega)]) 0 (Nat.zero_le _)
  simpa [laws_heldIntS.f] using q

theorem markPainting_ev (n c : Int) (l : List Int) (h : l.length ≤ 1152921504606846976) : Ev (fun k => laws_markPainting.f k n c l 1) (1 + (l.length : Int), marksI 1 l.length) := by
  unfold laws_markPainting.f
  exact Ev.bind (f := fun _ bt => some (bt.1, bt.2)) (markIntS_ev l 1 h (by omega) (by omega)) (Ev.now _)

end Go.Proofs.Ytkmhojpnmebfoaa.Plain

/- The laws' marks over rows of rows: written and found again. No condition but sizes that fit. -/
namespace Go.Proofs.Ytkmhojpnmebfoaa.Plain
open Go.RowKit Go.Proofs.YtkmhojpnmebfoaaW.PrintWords Go.Proofs.YtkmhojpnmebfoaaW.PrintLast
set_option linter.unusedVariables false
open Q

def totR : List (List Int) → Nat
  | [] => 0
  | r :: l => r.length + totR l
def markRows : Int → List (List Int) → List (List Int)
  | _, [] => []
  | v, r :: l => marksI v r.length :: markRows (v + (r.length : Int)) l
theorem markIntSS_at : ∀ (l p : List (List Int)) (v : Int), 0 ≤ v → v + (totR l : Int) ≤ 1152921504606846976 → p.length + l.length ≤ 1152921504606846976 →
    Ev (fun k => laws_markIntSS.l0 k (p ++ l) v (p.length : Int)) (v + (totR l : Int), p ++ markRows v l)
  | [], p, v, h0, h1, h2 => by
    refine Ev.step (f := fun _ => some (v, p)) (fun k => ?_) (by simpa [totR, markRows] using Ev.now (v, p))
    simp only [laws_markIntSS.l0]
    rw [if_neg (by simp), List.append_nil]
  | r :: l, p, v, h0, h1, h2 => by
    simp only [totR] at h1
    simp only [List.length_cons] at h2
    have ih := markIntSS_at l (p ++ [marksI v r.length]) (v + (r.length : Int)) (by omega) (by omega) (by rw [List.length_append, List.length_singleton]; omega)
    rw [List.length_append, List.length_singleton, List.append_assoc, List.append_assoc, List.singleton_append, List.singleton_append] at ih
    refine Ev.step (f := fun k => (laws_markIntS.f k r v).bind fun t => laws_markIntSS.l0 k (p ++ t.2 :: l) t.1 ((p.length + 1 : Nat) : Int)) (fun k => ?_) ?_
    · simp only [laws_markIntSS.l0]
      rw [if_pos (by rw [List.length_append, List.length_cons]; omega), if_pos (by omega), Int.toNat_natCast, wrap_id (by omega) (by omega)]
      have e1 : (p ++ r :: l).getD p.length [] = r := by simp
      rw [e1]
      congr 1
      funext t
      rw [show ((p.length : Int) + 1) = ((p.length + 1 : Nat) : Int) by omega]
      congr 1
      simp
    · refine Ev.bind (markIntS_ev r v (by omega) h0 (by omega)) ?_
      simp only [totR, markRows]
      rw [show v + ((r.length + totR l : Nat) : Int) = v + (r.length : Int) + (totR l : Int) by omega]
      exact ih
theorem markIntSS_ev (l : List (List Int)) (h : totR l ≤ 1048576) (h2 : l.length ≤ 1048576) : Ev (fun k => laws_markIntSS.f k l 1) (1 + (totR l : Int), markRows 1 l) := by
  have := markIntSS_at l [] 1 (by omega) (by omega) (by rw [List.length_nil]; omega)
  simpa [laws_markIntSS.f] using this
theorem heldIntSS_at : ∀ (l p : List (List Int)) (v : Int), 0 ≤ v → v + (totR l : Int) ≤ 1152921504606846976 → p.length + l.length ≤ 1152921504606846976 →
    Ev (fun k => laws_heldIntSS.l0 k (p ++ markRows v l) v (p.length : Int)) (v + (totR l : Int))
  | [], p, v, h0, h1, h2 => by
    refine Ev.step (f := fun _ => some v) (fun k => ?_) (by simpa [totR] using Ev.now v)
    simp only [laws_heldIntSS.l0]
    rw [if_neg (by simp [markRows])]
  | r :: l, p, v, h0, h1, h2 => by
    simp only [totR] at h1
    simp only [List.length_cons] at h2
    have ih := heldIntSS_at l (p ++ [marksI v r.length]) (v + (r.length : Int)) (by omega) (by omega) (by rw [List.length_append, List.length_singleton]; omega)
    rw [List.length_append, List.length_singleton, List.append_assoc, List.singleton_append] at ih
    show Ev (fun k => laws_heldIntSS.l0 k (p ++ marksI v r.length :: markRows (v + (r.length : Int)) l) v (p.length : Int)) (v + (totR (r :: l) : Int))
    refine Ev.step (f := fun k => (laws_heldIntS.f k (marksI v r.length) v).bind fun t => if t < 0 then some (-1) else laws_heldIntSS.l0 k (p ++ marksI v r.length :: markRows (v + (r.length : Int)) l) t ((p.length + 1 : Nat) : Int)) (fun k => ?_) ?_
    · simp only [laws_heldIntSS.l0]
      rw [if_pos (by rw [List.length_append, List.length_cons]; omega), if_pos (by omega), rdL_at (by rw [List.length_append, List.length_cons]; omega), wrap_id (by omega) (by omega)]
      rw [List.getElem_append_right (Nat.le_refl _)]
      simp
    · refine Ev.bind (heldIntS_ev r.length v (by omega) h0 (by omega)) ?_
      refine ev_if (fun q => by omega) (fun _ => ?_)
      simp only [totR]
      rw [show v + ((r.length + totR l : Nat) : Int) = v + (r.length : Int) + (totR l : Int) by omega]
      exact ih
theorem heldIntSS_ev (l : List (List Int)) (h : totR l ≤ 1048576) (h2 : l.length ≤ 1048576) : Ev (fun k => laws_heldIntSS.f k (markRows 1 l) 1) (1 + (totR l : Int)) := by
  have := heldIntSS_at l [] 1 (by omega) (by omega) (by rw [List.length_nil]; omega)
  simpa [laws_heldIntSS.f] using this
end Go.Proofs.Ytkmhojpnmebfoaa.Plain

/- The triples of a relation of three, in their order; the triples of one colour. No condition. -/
namespace Go.Proofs.Ytkmhojpnmebfoaa.Plain
open Go.RowKit Go.Proofs.YtkmhojpnmebfoaaW.PrintWords Go.Proofs.YtkmhojpnmebfoaaW.PrintLast
set_option linter.unusedVariables false
open Q

def tripL (t : Nat × Nat × Nat) : List Int := [(t.1 : Int), (t.2.1 : Int), (t.2.2 : Int)]
def cT (a b : Nat) : Nat → Nat → List (Nat × Nat × Nat)
  | 0, _ => []
  | d + 1, c => (a, b, c) :: cT a b d (c + 1)
def bT (n a : Nat) : Nat → Nat → List (Nat × Nat × Nat)
  | 0, _ => []
  | d + 1, b => cT a b (n - (b + 1)) (b + 1) ++ bT n a d (b + 1)
def aT (n : Nat) : Nat → Nat → List (Nat × Nat × Nat)
  | 0, _ => []
  | d + 1, a => bT n a (n - (a + 1)) (a + 1) ++ aT n d (a + 1)
def triples (n : Nat) : List (Nat × Nat × Nat) := aT n n 0
def pick (P : Nat → Nat → Nat → Bool) (T : List (Nat × Nat × Nat)) : List (List Int) := (T.filter fun t => P t.1 t.2.1 t.2.2).map tripL
theorem pick_app (P : Nat → Nat → Nat → Bool) (T U : List (Nat × Nat × Nat)) : pick P (T ++ U) = pick P T ++ pick P U := by unfold pick; rw [List.filter_append, List.map_append]
theorem pick_cons (P : Nat → Nat → Nat → Bool) (t : Nat × Nat × Nat) (T : List (Nat × Nat × Nat)) : pick P (t :: T) = (if P t.1 t.2.1 t.2.2 = true then [tripL t] else []) ++ pick P T := by
  unfold pick
  rw [List.filter_cons]
  by_cases h : P t.1 t.2.1 t.2.2 = true
  · rw [if_pos h, if_pos h]; rfl
  · rw [if_neg h, if_neg h]; rfl
theorem mem_cT : ∀ {d a b c : Nat} {t : Nat × Nat × Nat}, t ∈ cT a b d c → t.1 = a ∧ t.2.1 = b ∧ c ≤ t.2.2 ∧ t.2.2 < c + d
  | 0, _, _, _, _, h => by simp [cT] at h
  | d + 1, a, b, c, t, h => by
    unfold cT at h
    rcases List.mem_cons.1 h with e | e
    · subst e; exact ⟨rfl, rfl, Nat.le_refl _, by show c < c + (d + 1); omega⟩
    · have := mem_cT e; exact ⟨this.1, this.2.1, by omega, by omega⟩
theorem mem_bT : ∀ {n a d b : Nat} {t : Nat × Nat × Nat}, t ∈ bT n a d b → t.1 = a ∧ b ≤ t.2.1 ∧ t.2.1 < b + d ∧ t.2.1 < t.2.2 ∧ t.2.2 < n
  | _, _, 0, _, _, h => by simp [bT] at h
  | n, a, d + 1, b, t, h => by
    unfold bT at h
    rcases List.mem_append.1 h with e | e
    · have := mem_cT e; exact ⟨this.1, by omega, by omega, by omega, by omega⟩
    · have := mem_bT e; exact ⟨this.1, by omega, by omega, this.2.2.2⟩
theorem mem_aT : ∀ {n d a : Nat} {t : Nat × Nat × Nat}, t ∈ aT n d a → a ≤ t.1 ∧ t.1 < t.2.1 ∧ t.2.1 < t.2.2 ∧ t.2.2 < n
  | _, 0, _, _, h => by simp [aT] at h
  | n, d + 1, a, t, h => by
    unfold aT at h
    rcases List.mem_append.1 h with e | e
    · have := mem_bT e; exact ⟨by omega, by omega, by omega, by omega⟩
    · have := mem_aT e; exact ⟨by omega, this.2⟩
def lt3 (x y : Nat × Nat × Nat) : Prop := x.1 < y.1 ∨ (x.1 = y.1 ∧ (x.2.1 < y.2.1 ∨ (x.2.1 = y.2.1 ∧ x.2.2 < y.2.2)))
theorem cT_lt : ∀ d a b c, (cT a b d c).Pairwise lt3
  | 0, _, _, _ => by simp [cT]
  | d + 1, a, b, c => by
    unfold cT
    rw [List.pairwise_cons]
    refine ⟨fun t ht => ?_, cT_lt d a b (c + 1)⟩
    have := mem_cT ht
    exact .inr ⟨this.1.symm, .inr ⟨this.2.1.symm, by show c < t.2.2; omega⟩⟩
theorem bT_lt : ∀ n a d b, (bT n a d b).Pairwise lt3
  | _, _, 0, _ => by simp [bT]
  | n, a, d + 1, b => by
    unfold bT
    rw [List.pairwise_append]
    refine ⟨cT_lt _ _ _ _, bT_lt n a d (b + 1), fun x hx y hy => ?_⟩
    have h1 := mem_cT hx
    have h2 := mem_bT hy
    exact .inr ⟨by omega, .inl (by omega)⟩
theorem aT_lt : ∀ n d a, (aT n d a).Pairwise lt3
  | _, 0, _ => by simp [aT]
  | n, d + 1, a => by
    unfold aT
    rw [List.pairwise_append]
    refine ⟨bT_lt _ _ _ _, aT_lt n d (a + 1), fun x hx y hy => ?_⟩
    have h1 := mem_bT hx
    have h2 := mem_aT hy
    exact .inl (by omega)
theorem trip_cmp {x y : Nat × Nat × Nat} (h : lt3 x y) : cmpLL (tripL x) (tripL y) ≤ 0 := by
  unfold tripL cmpLL cmpLL cmpLL
  rcases h with h | ⟨h1, h | ⟨h2, h⟩⟩
  · rw [if_pos (by omega)]; omega
  · rw [if_neg (by omega), if_neg (by omega), if_pos (by omega)]; omega
  · rw [if_neg (by omega), if_neg (by omega), if_neg (by omega), if_neg (by omega), if_pos (by omega)]; omega
theorem pick_sorted (P : Nat → Nat → Nat → Bool) (n : Nat) : (pick P (triples n)).Pairwise (fun a b => cmpLL a b ≤ 0) := by
  unfold pick
  rw [List.pairwise_map]
  exact ((aT_lt n n 0).filter _).imp (fun h => trip_cmp h)
/-- Of those parted into classes, none in two, the classes one behind the other are all. -/
theorem pick_parts (P : Nat → Nat → Nat → Nat → Bool) (T : List (Nat × Nat × Nat)) (hd : ∀ t ∈ T, ∀ p q, P p t.1 t.2.1 t.2.2 = true → P q t.1 t.2.1 t.2.2 = true → p = q) : ∀ c, ((List.range c).flatMap fun q => pick (P q) T).Perm (pick (fun x y z => (List.range c).any fun q => P q x y z) T)
  | 0 => by
    have : pick (fun x y z => (List.range 0).any fun q => P q x y z) T = [] := by unfold pick; simp
    rw [this]; simp
  | c + 1 => by
    have ih := pick_parts P T hd c
    rw [List.range_succ, List.flatMap_append]
    refine (ih.append_right _).trans ?_
    have key : ∀ U : List (Nat × Nat × Nat), (∀ t ∈ U, ∀ p q, P p t.1 t.2.1 t.2.2 = true → P q t.1 t.2.1 t.2.2 = true → p = q) → (pick (fun x y z => (List.range c).any fun q => P q x y z) U ++ pick (P c) U).Perm (pick (fun x y z => (List.range c ++ [c]).any fun q => P q x y z) U) := by
      intro U
      induction U with
      | nil => intro _; simp [pick]
      | cons t U ihU =>
        intro h
        have ihU' := ihU (fun x hx => h x (List.mem_cons_of_mem _ hx))
        rw [pick_cons, pick_cons, pick_cons]
        have e : ((List.range c ++ [c]).any fun q => P q t.1 t.2.1 t.2.2) = (((List.range c).any fun q => P q t.1 t.2.1 t.2.2) || P c t.1 t.2.1 t.2.2) := by rw [List.any_append]; simp
        by_cases h1 : ((List.range c).any fun q => P q t.1 t.2.1 t.2.2) = true
        · have h2 : ¬ P c t.1 t.2.1 t.2.2 = true := by
            intro h2
            obtain ⟨q, hq, hp⟩ := List.any_eq_true.1 h1
            have := h t (by simp) q c hp h2
            have := List.mem_range.1 hq
            omega
          rw [if_pos h1, if_neg h2, if_pos (by rw [e, h1]; rfl), List.nil_append, List.append_assoc]
          exact List.Perm.append_left _ ihU'
        · rw [if_neg h1, List.nil_append]
          by_cases h2 : P c t.1 t.2.1 t.2.2 = true
          · rw [if_pos h2, if_pos (by rw [e, h2]; simp)]
            refine (List.perm_append_comm_assoc _ _ _).trans ?_
            exact List.Perm.append_left _ ihU'
          · rw [if_neg h2, if_neg (by rw [e]; simp only [Bool.or_eq_true]; exact fun z => z.elim h1 h2), List.nil_append, List.nil_append]
            exact ihU'
    have := key T hd
    simpa using this
theorem pick_congr {P Q' : Nat → Nat → Nat → Bool} {T : List (Nat × Nat × Nat)} (h : ∀ t ∈ T, P t.1 t.2.1 t.2.2 = Q' t.1 t.2.1 t.2.2) : pick P T = pick Q' T := by
  unfold pick
  rw [List.filter_congr h]
theorem cT_length : ∀ d a b c, (cT a b d c).length = d
  | 0, _, _, _ => rfl
  | d + 1, a, b, c => by unfold cT; rw [List.length_cons, cT_length d a b (c + 1)]
theorem bT_length : ∀ n a d b, (bT n a d b).length ≤ d * n
  | _, _, 0, _ => by simp [bT]
  | n, a, d + 1, b => by
    unfold bT
    rw [List.length_append, cT_length, Nat.succ_mul]
    have := bT_length n a d (b + 1)
    omega
theorem aT_length : ∀ n d a, (aT n d a).length ≤ d * (n * n)
  | _, 0, _ => by simp [aT]
  | n, d + 1, a => by
    unfold aT
    rw [List.length_append, Nat.succ_mul]
    have h1 := aT_length n d (a + 1)
    have h2 := bT_length n a (n - (a + 1)) (a + 1)
    have h3 : (n - (a + 1)) * n ≤ n * n := Nat.mul_le_mul_right n (by omega)
    omega
theorem pick_length {P : Nat → Nat → Nat → Bool} {n : Nat} (hn : n ≤ 8) : (pick P (triples n)).length ≤ 512 := by
  unfold pick
  rw [List.length_map]
  refine Nat.le_trans (List.length_filter_le _ _) (Nat.le_trans (aT_length n n 0) ?_)
  have h1 : n * n ≤ 8 * 8 := Nat.mul_le_mul hn hn
  exact Nat.mul_le_mul hn h1

/-- Three loops, one in the other, that gather triples. -/
theorem three_loops {R : Type} {n : Nat} (hn : n ≤ 8) (P : Nat → Nat → Nat → Bool) (L0 : Nat → List (List Int) → Nat → Option R) (L1 : Nat → List (List Int) → Nat → Nat → Option R) (L2 : Nat → List (List Int) → Nat → Nat → Nat → Option R) (fin : List (List Int) → R)
    (e0 : ∀ acc, Ev (fun k => L0 k acc n) (fin acc))
    (s0 : ∀ acc a r, a < n → Ev (fun k => L1 k acc a (a + 1)) r → Ev (fun k => L0 k acc a) r)
    (e1 : ∀ acc a r, a < n → Ev (fun k => L0 k acc (a + 1)) r → Ev (fun k => L1 k acc a n) r)
    (s1 : ∀ acc a b r, a < b → b < n → Ev (fun k => L2 k acc a b (b + 1)) r → Ev (fun k => L1 k acc a b) r)
    (e2 : ∀ acc a b r, a < b → b < n → Ev (fun k => L1 k acc a (b + 1)) r → Ev (fun k => L2 k acc a b n) r)
    (s2 : ∀ acc a b c r, a < b → b < c → c < n → acc.length ≤ 1000 → Ev (fun k => L2 k (if P a b c = true then acc ++ [tripL (a, b, c)] else acc) a b (c + 1)) r → Ev (fun k => L2 k acc a b c) r) :
    Ev (fun k => L0 k [] 0) (fin (pick P (triples n))) := by
  have outer : ∀ d a acc, a ≤ n → n - a = d → List.length acc ≤ 64 * a → Ev (fun k => L0 k acc a) (fin (acc ++ pick P (aT n d a))) := by
    intro d
    induction d with
    | zero =>
      intro a acc ha hd _
      obtain rfl : a = n := by omega
      simpa [aT, pick] using e0 acc
    | succ d ihd =>
      intro a acc ha hd hacc
      have han : a < n := by omega
      have mid : ∀ e b acc, a < b → b ≤ n → n - b = e → List.length acc ≤ 64 * a + 8 * b → Ev (fun k => L1 k acc a b) (fin (acc ++ (pick P (bT n a e b) ++ pick P (aT n d (a + 1))))) := by
        intro e
        induction e with
        | zero =>
          intro b acc hab hb he hacc
          obtain rfl : b = n := by omega
          have := e1 acc a _ han (ihd (a + 1) acc (by omega) (by omega) (by omega))
          simpa [bT, pick] using this
        | succ e ihe =>
          intro b acc hab hb he hacc
          have hbn : b < n := by omega
          have inner : ∀ f c acc, b < c → c ≤ n → n - c = f → List.length acc ≤ 64 * a + 8 * b + c → Ev (fun k => L2 k acc a b c) (fin (acc ++ (pick P (cT a b f c) ++ (pick P (bT n a e (b + 1)) ++ pick P (aT n d (a + 1)))))) := by
            intro f
            induction f with
            | zero =>
              intro c acc hbc hc hf hacc
              obtain rfl : c = n := by omega
              have := e2 acc a b _ hab hbn (ihe (b + 1) acc (by omega) (by omega) (by omega) (by omega))
              simpa [cT, pick] using this
            | succ f ihf =>
              intro c acc hbc hc hf hacc
              have hcn : c < n := by omega
              refine s2 acc a b c _ hab hbc hcn (by omega) ?_
              unfold cT
              rw [pick_cons]
              by_cases hp : P a b c = true
              · rw [if_pos hp, if_pos hp]
                have := ihf (c + 1) (acc ++ [tripL (a, b, c)]) (by omega) (by omega) (by omega) (by simp; omega)
                rw [List.append_assoc] at this
                rw [List.append_assoc]
                exact this
              · rw [if_neg hp, if_neg hp]
                exact ihf (c + 1) acc (by omega) (by omega) (by omega) (by omega)
          refine s1 acc a b _ hab hbn ?_
          unfold bT
          rw [pick_app, List.append_assoc]
          exact inner (n - (b + 1)) (b + 1) acc (by omega) (by omega) rfl (by omega)
      refine s0 acc a _ han ?_
      unfold aT
      rw [pick_app]
      exact mid (n - (a + 1)) (a + 1) acc (by omega) (by omega) rfl (by omega)
  exact outer n 0 [] (Nat.zero_le _) rfl (by simp)

/-! ### The program's triples -/
theorem implThrees_ev {n : Nat} (hn : n ≤ 8) (f : Nat → Nat → Bool) : Ev (fun k => impl_threes.f k (n : Int) (tabF n f)) (pick (fun a b c => f a b && f a c && f b c) (triples n)) := by
  unfold impl_threes.f
  refine three_loops hn _ (fun k acc a => impl_threes.l0 k (n : Int) (tabF n f) acc (n : Int) (a : Int)) (fun k acc a b => impl_threes.l1 k (n : Int) (tabF n f) acc (a : Int) (b : Int) (n : Int) (a : Int)) (fun k acc a b c => impl_threes.l2 k (n : Int) (tabF n f) acc (a : Int) (b : Int) (c : Int) (n : Int) (a : Int)) id ?_ ?_ ?_ ?_ ?_ ?_
  · intro acc
    exact Ev.step (f := fun _ => some acc) (fun k => by simp only [impl_threes.l0]; rw [if_neg (by omega)]) (Ev.now _)
  · intro acc a r ha h
    refine Ev.step (fun k => ?_) h
    simp only [impl_threes.l0]
    rw [if_pos (by omega), succ_cast ha (by omega)]
  · intro acc a r ha h
    refine Ev.step (fun k => ?_) h
    simp only [impl_threes.l1]
    rw [if_neg (by omega), succ_cast ha (by omega)]
  · intro acc a b r hab hb h
    refine Ev.step (fun k => ?_) h
    simp only [impl_threes.l1]
    rw [if_pos (by omega), succ_cast hb (by omega)]
  · intro acc a b r hab hb h
    refine Ev.step (fun k => ?_) h
    simp only [impl_threes.l2]
    rw [if_neg (by omega), succ_cast hb (by omega)]
  · intro acc a b c r hab hbc hc hl h
    refine Ev.step (fun k => ?_) h
    simp only [impl_threes.l2]
    rw [if_pos (by omega), has_eq (by omega) f (by omega) (by omega), has_eq (by omega) f (by omega) (by omega), has_eq (by omega) f (by omega) (by omega), Option.bind_some, succ_cast hc (by omega)]
    simp only [Option.bind_some]
    cases h1 : f a b with
    | false => simp
    | true =>
      cases h2 : f a c with
      | false => simp
      | true =>
        cases h3 : f b c with
        | false => simp
        | true =>
          simp only [if_true, Bool.and_self]
          rw [if_pos (by omega)]
          rfl
theorem seen_full (g : Nat → Nat → Bool) {n a b : Nat} (ha : a < n) (hb : b < n) (hab : a ≠ b) : seenG g n 0 a b = g a b := by
  unfold seenG
  rw [decide_eq_true (by omega), Bool.and_true]

/-- The colour of two. -/
def hue (n : Nat) (l : List Int) (a b : Nat) : Int := rd l (placeOf (n : Int) (a : Int) (b : Int))
theorem colF_hue (n : Nat) (l : List Int) (q : Int) (a b : Nat) : colF n l q a b = decide (hue n l a b = q) := rfl
theorem hue_range {n : Nat} {c : Int} {l : List Int} (hp : painted (n : Int) c l = true) {a b : Nat} (ha : a < n) (hb : b < n) (hab : a ≠ b) : 0 ≤ hue n l a b ∧ hue n l a b < c := by
  obtain ⟨_, _, _, _, h5, h6⟩ := painted_of hp
  have hpl := place_two (two_in hp ha hb hab)
  unfold hue
  have h0 := hpl.2.2.1
  have h1 := hpl.2.2.2
  obtain ⟨i, hi⟩ := Int.eq_ofNat_of_zero_le h0
  rw [hi] at h1 ⊢
  have hil : i < l.length := by omega
  rw [rd_at hil]
  have := h6 _ (List.getElem_mem hil)
  omega
def sameHue (n : Nat) (l : List Int) (a b c : Nat) : Bool := decide (hue n l a b = hue n l a c) && decide (hue n l a b = hue n l b c)

theorem oneColour_ev {n : Nat} {c : Int} {l : List Int} (hp : painted (n : Int) c l = true) : Ev (fun k => impl_Painting_oneColour.f k (n : Int) c l) (pick (sameHue n l) (triples n)) := by
  obtain ⟨_, h8, hc1, hc3, _, _⟩ := painted_of hp
  obtain ⟨m, rfl⟩ := Int.eq_ofNat_of_zero_le (show 0 ≤ c by omega)
  have hn : n ≤ 8 := by omega
  have hrow : ∀ q : Nat, Ev (fun k => (impl_Painting_inColour.f k (n : Int) (m : Int) l (q : Int)).bind fun t => impl_threes.f k (n : Int) t) (pick (fun x y z => colF n l (q : Int) x y && colF n l (q : Int) x z && colF n l (q : Int) y z) (triples n)) := by
    intro q
    refine Ev.bind (inColour_ev hp (q : Int)) ?_
    have := implThrees_ev hn (seenG (colF n l (q : Int)) n 0)
    rw [pick_congr (Q' := fun x y z => colF n l (q : Int) x y && colF n l (q : Int) x z && colF n l (q : Int) y z)] at this
    · exact this
    · intro t ht
      have := mem_aT ht
      show (seenG _ _ _ _ _ && seenG _ _ _ _ _ && seenG _ _ _ _ _) = _
      rw [seen_full _ (by omega) (by omega) (by omega), seen_full _ (by omega) (by omega) (by omega), seen_full _ (by omega) (by omega) (by omega)]
  have loop : ∀ d i acc, m - i = d → i ≤ m → List.length acc ≤ 512 * i → Ev (fun k => impl_Painting_oneColour.l0 k acc (m : Int) (i : Int) (n : Int) (m : Int) l) (acc ++ ((List.range m).drop i).flatMap fun (q : Nat) => pick (fun x y z => colF n l (q : Int) x y && colF n l (q : Int) x z && colF n l (q : Int) y z) (triples n)) := by
    intro d
    induction d with
    | zero =>
      intro i acc hd hi _
      obtain rfl : i = m := by omega
      rw [List.drop_eq_nil_of_le (by simp), List.flatMap_nil, List.append_nil]
      exact Ev.step (f := fun _ => some acc) (fun k => by simp only [impl_Painting_oneColour.l0]; rw [if_neg (by omega)]) (Ev.now _)
    | succ d ih =>
      intro i acc hd hi hl
      have him : i < m := by omega
      obtain ⟨K, hK⟩ := hrow i
      have hpl := pick_length (P := fun x y z => colF n l (i : Int) x y && colF n l (i : Int) x z && colF n l (i : Int) y z) hn
      rw [List.drop_eq_getElem_cons (by simpa using him), List.getElem_range, List.flatMap_cons, ← List.append_assoc]
      refine Ev.step (f := fun k => (impl_Painting_inColour.f k (n : Int) (m : Int) l (i : Int)).bind fun t => (impl_threes.f k (n : Int) t).bind fun u => if acc.length + u.length < 5864062014805 then impl_Painting_oneColour.l0 k (acc ++ u) (m : Int) ((i + 1 : Nat) : Int) (n : Int) (m : Int) l else none) (fun k => ?_) ?_
      · simp only [impl_Painting_oneColour.l0]
        rw [if_pos (by omega), succ_cast him (by omega)]
      · refine Ev.congr (f := fun k => ((impl_Painting_inColour.f k (n : Int) (m : Int) l (i : Int)).bind fun t => impl_threes.f k (n : Int) t).bind fun u => if acc.length + u.length < 5864062014805 then impl_Painting_oneColour.l0 k (acc ++ u) (m : Int) ((i + 1 : Nat) : Int) (n : Int) (m : Int) l else none) (fun k => ?_) ?_
        · rw [Option.bind_assoc]
        · refine Ev.bind ⟨K, hK⟩ ?_
          refine ev_if (fun _ => ?_) (fun h => absurd (by omega) h)
          exact ih (i + 1) _ (by omega) (by omega) (by rw [List.length_append]; omega)
  unfold impl_Painting_oneColour.f
  refine Ev.bind (loop m 0 [] rfl (Nat.zero_le _) (by simp)) ?_
  rw [List.nil_append, List.drop_zero]
  have hperm := pick_parts (fun q x y z => colF n l (q : Int) x y && colF n l (q : Int) x z && colF n l (q : Int) y z) (triples n) (fun t _ p q h1 h2 => by
    simp only [Bool.and_eq_true, colF_hue, decide_eq_true_eq] at h1 h2
    omega) m
  have hlen := hperm.length_eq
  have heq : pick (fun x y z => (List.range m).any fun q => colF n l (q : Int) x y && colF n l (q : Int) x z && colF n l (q : Int) y z) (triples n) = pick (sameHue n l) (triples n) := by
    refine pick_congr (fun t ht => ?_)
    have hm := mem_aT ht
    have hr := hue_range hp (a := t.1) (b := t.2.1) (by omega) (by omega) (by omega)
    unfold sameHue
    rw [Bool.eq_iff_iff, List.any_eq_true]
    simp only [Bool.and_eq_true, colF_hue, decide_eq_true_eq]
    constructor
    · rintro ⟨q, _, ⟨h1, h2⟩, h3⟩; omega
    · rintro ⟨h1, h2⟩
      refine ⟨(hue n l t.1 t.2.1).toNat, List.mem_range.2 (by omega), ⟨?_, ?_⟩, ?_⟩ <;> omega
  rw [heq] at hperm hlen
  have hpl := pick_length (P := sameHue n l) hn
  refine ev_if (fun _ => ?_) (fun h => absurd (by omega) h)
  rw [← sortLL_unique (pick_sorted (sameHue n l) n) hperm.symm]
  exact Ev.now _

/-! ### The reference's triples -/
theorem ptThrees_ev {n : Nat} {c : Int} {l : List Int} (hp : painted (n : Int) c l = true) : Ev (fun k => spec_ptThrees.f k (n : Int) c l) (pick (sameHue n l) (triples n)) := by
  obtain ⟨_, h8, hc1, hc3, _, _⟩ := painted_of hp
  unfold spec_ptThrees.f
  refine three_loops (by omega) _ (fun k acc a => spec_ptThrees.l0 k acc (a : Int) (n : Int) c l) (fun k acc a b => spec_ptThrees.l1 k acc (a : Int) (b : Int) (n : Int) c l) (fun k acc a b z => spec_ptThrees.l2 k acc (a : Int) (b : Int) (z : Int) (n : Int) c l) id ?_ ?_ ?_ ?_ ?_ ?_
  · intro acc
    exact Ev.step (f := fun _ => some acc) (fun k => by simp only [spec_ptThrees.l0]; rw [if_neg (by omega)]) (Ev.now _)
  · intro acc a r ha h
    refine Ev.step (fun k => ?_) h
    simp only [spec_ptThrees.l0]
    rw [if_pos (by omega), succ_cast ha (by omega)]
  · intro acc a r ha h
    refine Ev.step (fun k => ?_) h
    simp only [spec_ptThrees.l1]
    rw [if_neg (by omega), succ_cast ha (by omega)]
  · intro acc a b r hab hb h
    refine Ev.step (fun k => ?_) h
    simp only [spec_ptThrees.l1]
    rw [if_pos (by omega), succ_cast hb (by omega)]
  · intro acc a b r hab hb h
    refine Ev.step (fun k => ?_) h
    simp only [spec_ptThrees.l2]
    rw [if_neg (by omega), succ_cast hb (by omega)]
  · intro acc a b z r hab hbz hz hl h
    have o1 := ptOf_eq (two_in hp (a := a) (b := b) (by omega) (by omega) (by omega))
    have o2 := ptOf_eq (two_in hp (a := a) (b := z) (by omega) (by omega) (by omega))
    have o3 := ptOf_eq (two_in hp (a := b) (b := z) (by omega) (by omega) (by omega))
    refine Ev.step (fun k => ?_) h
    simp only [spec_ptThrees.l2]
    rw [if_pos (by omega), o1, o2, o3, succ_cast hz (by omega)]
    simp only [Option.bind_some]
    show (if hue n l a b = hue n l a z then (if hue n l a b = hue n l b z then _ else _) else _) = _
    unfold sameHue
    by_cases h1 : hue n l a b = hue n l a z
    · rw [if_pos h1, decide_eq_true h1, Bool.true_and]
      by_cases h2 : hue n l a b = hue n l b z
      · rw [if_pos h2, if_pos (decide_eq_true h2), if_pos (by omega)]
        rfl
      · rw [if_neg h2, if_neg (by simpa using h2)]
    · rw [if_neg h1, decide_eq_false h1, Bool.false_and, if_neg (by simp)]

/-! ### Both tellings -/
def oneThrees (n c : Int) (l : List Int) : List (List Int) × Bool := if painted n c l = true then (pick (sameHue n.toNat l) (triples n.toNat), true) else ([], false)
theorem implOneThrees_ev (n c : Int) (l : List Int) (h : l.length ≤ 9223372036854775807) : Ev (fun k => impl_OneColourThrees.f k n c l) (oneThrees n c l) := by
  unfold impl_OneColourThrees.f oneThrees
  refine Ev.bind (isPainting_ev n c l h) ?_
  refine ev_if (fun hp => ?_) (fun hp => by rw [if_neg hp]; exact Ev.now _)
  rw [if_pos hp]
  have h0 := (painted_of hp).1
  obtain ⟨m, rfl⟩ := Int.eq_ofNat_of_zero_le h0
  rw [Int.toNat_natCast]
  exact Ev.bind (oneColour_ev hp) (Ev.now _)
theorem specOneThrees_ev (n c : Int) (l : List Int) (h : l.length ≤ 9223372036854775807) : Ev (fun k => spec_OneColourThrees.f k n c l) (oneThrees n c l) := by
  unfold spec_OneColourThrees.f oneThrees
  refine Ev.bind (ptGood_ev n c l h) ?_
  refine ev_if (fun hp => ?_) (fun hp => by rw [if_neg hp]; exact Ev.now _)
  rw [if_pos hp]
  have h0 := (painted_of hp).1
  obtain ⟨m, rfl⟩ := Int.eq_ofNat_of_zero_le h0
  rw [Int.toNat_natCast]
  exact Ev.bind (ptThrees_ev hp) (Ev.now _)
end Go.Proofs.Ytkmhojpnmebfoaa.Plain
/- The program's OneColourThrees returns what the reference's returns, for all arguments. No condition. -/
namespace Go.Proofs.Ytkmhojpnmebfoaa.Pure
open Go.RowKit Go.Proofs.YtkmhojpnmebfoaaW.PrintWords Go.Proofs.YtkmhojpnmebfoaaW.PrintLast
set_option linter.unusedVariables false
open Q Plain

theorem totR_le : ∀ (l : List (List Int)) (m : Nat), (∀ x ∈ l, x.length ≤ m) → totR l ≤ l.length * m
  | [], m, _ => by simp [totR]
  | r :: l, m, h => by
    have h1 := h r (by simp)
    have h2 := totR_le l m (fun x hx => h x (by simp [hx]))
    simp only [totR, List.length_cons]
    rw [Nat.succ_mul]
    omega
theorem tell_len (n c : Int) (l : List Int) : (oneThrees n c l).1.length ≤ 512 ∧ (∀ x ∈ (oneThrees n c l).1, x.length ≤ 3) := by
  unfold oneThrees
  by_cases p : painted n c l = true
  · rw [if_pos p]
    obtain ⟨h0, h8, _⟩ := painted_of p
    refine ⟨pick_length (by omega), fun x hx => ?_⟩
    unfold pick at hx
    obtain ⟨t, _, rfl⟩ := List.mem_map.1 hx
    simp [tripL]
  · rw [if_neg p]; exact ⟨by simp, by simp⟩
theorem FnExactOneColourThrees : laws_FnExactOneColourThrees.Pure := by
  intro n c l _ _ hl _
  refine Ev.rounds (g := fun k => laws_FnExactOneColourThrees.f k n c l) ?_
  unfold laws_FnExactOneColourThrees.f
  refine ev_bind0 (szPainting_eq n c l 1048576 (by omega) (by omega) hl) ?_
  refine ev_if (fun _ => Ev.now _) (fun hb => ?_)
  have hs : l.length ≤ 1048576 := by
    by_cases h : (1048576 : Int) < (l.length : Int)
    · rw [if_pos h] at hb; omega
    · omega
  have hTl := toPainting_ev n c l (by omega)
  have hS := specOneThrees_ev n c l hl
  have hI := implOneThrees_ev n c l hl
  have hp := tell_len n c l
  generalize oneThrees n c l = z at hS hI hp
  obtain ⟨ps, ok1⟩ := z
  obtain ⟨hp1, hp2⟩ := hp
  replace hp1 : ps.length ≤ 512 := hp1
  replace hp2 : ∀ x ∈ ps, x.length ≤ 3 := hp2
  have ht : totR ps ≤ 1536 := Nat.le_trans (totR_le ps 3 hp2) (by omega)
  have hE := eqIntSS_ev ps (by omega) (fun x hx => by have := hp2 x hx; omega)
  have hM := markIntSS_ev ps (by omega) (by omega)
  have hH := heldIntSS_ev ps (by omega) (by omega)
  refine Ev.bind hTl ?_
  refine Ev.bind hS ?_
  refine Ev.bind hTl ?_
  refine Ev.bind hI ?_
  refine Ev.bind hE ?_
  refine ev_if (fun _ => ?_) (fun h => absurd rfl h)
  show Ev (fun k => laws_FnExactOneColourThrees.j0 k ps ok1 ps ok1 (ok1 != ok1) n c l n c l) true
  rw [show (ok1 != ok1) = false by simp]
  refine Ev.step (f := fun k => (laws_toPainting.f k n c l).bind fun bt231 => ((laws_eqPainting.f k n c l bt231.1 bt231.2.1 bt231.2.2).bind fun t236 => (if t236 = true then ((laws_markPainting.f k n c l 1).bind fun bt237 => (if bt237.1 < 0 then (laws_FnExactOneColourThrees.j1 k ps ok1 ps true n c l) else ((laws_eqIntSS.f k ps ps).bind fun t239 => (if t239 = true then (laws_FnExactOneColourThrees.j1 k ps ok1 ps (ok1 != ok1) n c l) else (laws_FnExactOneColourThrees.j1 k ps ok1 ps true n c l))))) else (some false)))) (fun k => by simp only [laws_FnExactOneColourThrees.j0]; rfl) ?_
  refine Ev.bind hTl ?_
  refine Ev.bind (eqPainting_ev n c l hl) ?_
  refine ev_if (fun _ => ?_) (fun h => absurd rfl h)
  refine Ev.bind (markPainting_ev n c l (by omega)) ?_
  refine ev_if (fun (q : (1 + (l.length : Int)) < 0) => by omega) (fun _ => ?_)
  refine Ev.bind hE ?_
  refine ev_if (fun _ => ?_) (fun h => absurd rfl h)
  show Ev (fun k => laws_FnExactOneColourThrees.j1 k ps ok1 ps (ok1 != ok1) n c l) true
  rw [show (ok1 != ok1) = false by simp]
  refine Ev.step (f := fun k => (laws_markIntSS.f k ps 1).bind fun bt240 => ((laws_heldIntSS.f k bt240.2 1).bind fun t241 => (if t241 < 0 then (some false) else (if t241 = bt240.1 then ((laws_toPainting.f k n c l).bind fun bt242 => ((impl_OneColourThrees.f k bt242.1 bt242.2.1 bt242.2.2).bind fun bt247 => ((laws_eqIntSS.f k bt247.1 ps).bind fun t251 => (if t251 = true then (laws_FnExactOneColourThrees.j2 k bt240.2 bt240.1 (bt247.2 != ok1)) else (laws_FnExactOneColourThrees.j2 k bt240.2 bt240.1 true))))) else (some false))))) (fun k => by simp only [laws_FnExactOneColourThrees.j1]; rfl) ?_
  refine Ev.bind hM ?_
  refine Ev.bind hH ?_
  refine ev_if (fun (q : (1 + (totR ps : Int)) < 0) => by omega) (fun _ => ?_)
  refine ev_if (fun _ => ?_) (fun h => absurd rfl h)
  refine Ev.bind hTl ?_
  refine Ev.bind hI ?_
  refine Ev.bind hE ?_
  refine ev_if (fun _ => ?_) (fun h => absurd rfl h)
  show Ev (fun k => laws_FnExactOneColourThrees.j2 k (markRows 1 ps) (1 + (totR ps : Int)) (ok1 != ok1)) true
  rw [show (ok1 != ok1) = false by simp]
  refine Ev.step (f := fun k => (laws_heldIntSS.f k (markRows 1 ps) 1).bind fun t278 => (if t278 < 0 then (some false) else (if t278 = (1 + (totR ps : Int)) then (some true) else (some false)))) (fun k => by simp only [laws_FnExactOneColourThrees.j2]; rfl) ?_
  refine Ev.bind hH ?_
  refine ev_if (fun (q : (1 + (totR ps : Int)) < 0) => by omega) (fun _ => ?_)
  refine ev_if (fun _ => ?_) (fun h => absurd rfl h)
  exact Ev.now _
end Go.Proofs.Ytkmhojpnmebfoaa.Pure
