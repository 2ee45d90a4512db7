import Derived.Test.YteffcgocnkcpiaaDoorQ0
import Derived.Test.YteffcgocnkcpiaaDoorQ2
import Derived.Test.YteffcgocnkcpiaaDoorQ4
import Derived.Test.YteffcgocnkcpiaaDoorQ5
import Derived.Test.YteffcgocnkcpiaaDoorQ6
import Derived.Test.YteffcgocnkcpiaaDoorQ7
import Derived.Test.YteffcgocnkcpiaaDoorQ9
import Derived.Test.YteffcgocnkcpiaaDoorQ14
import Derived.Test.YteffcgocnkcpiaaDoorQ16
import Derived.Test.YteffcgocnkcpiaaDoorQ20
import Derived.Test.YteffcgocnkcpiaaDoorQ28
import Derived.Test.YteffcgocnkcpiaaDoorQ31
import Derived.Test.YteffcgocnkcpiaaDoorQ38
import Derived.Test.YteffcgocnkcpiaaDoorSayFnExactMostOneColour
/- Plain lemmas over rounds, lists and whole numbers, for the pure statements of this seat. No condition. -/
namespace Go.Proofs.YteffcgocnkcpiaaDoor.Plain
open Go.RowKit Go.Proofs.YteffcgocnkcpiaaDoorW.PrintWords Go.Proofs.YteffcgocnkcpiaaDoorW.PrintLast
set_option linter.unusedVariables false

theorem wrap_id {x : Int} (h0 : -9223372036854775808 ≤ x) (h1 : x ≤ 9223372036854775807) : wrap64 x = x := by
  unfold wrap64
  omega

theorem rd_at {l : List Int} {i : Nat} (h : i < l.length) : rd l (i : Int) = l[i] := by
  simp [rd, List.getD, h]

theorem ev_some {α : Type} {g : Nat → Option α} {r : α} (h : ∀ k, g k = some r) : Ev g r := ⟨0, fun k _ => h k⟩

theorem ev_bind0 {α β : Type} {g : Option α} {f : Nat → α → Option β} {a : α} {r : β} (h : g = some a) (k : Ev (fun n => f n a) r) : Ev (fun n => g.bind (f n)) r := by
  obtain ⟨K, hK⟩ := k
  refine ⟨K, fun n hn => ?_⟩
  show g.bind (f n) = some r
  rw [h]
  exact hK n hn

theorem ev_if {α : Type} {c : Prop} [Decidable c] {f g : Nat → Option α} {r : α} (hf : c → Ev f r) (hg : ¬ c → Ev g r) : Ev (fun n => if c then f n else g n) r := by
  by_cases h : c
  · obtain ⟨K, hK⟩ := hf h
    exact ⟨K, fun n hn => (if_pos h).trans (hK n hn)⟩
  · obtain ⟨K, hK⟩ := hg h
    exact ⟨K, fun n hn => (if_neg h).trans (hK n hn)⟩

/-- A loop over an index, from any index on, in one shape. -/
theorem ev_up {α : Type} {n : Nat} {loop : Nat → Nat → Option α} {r : Nat → α} (hend : Ev (fun k => loop k n) (r n)) (hstep : ∀ i, i < n → (Ev (fun k => loop k (i + 1)) (r (i + 1)) → Ev (fun k => loop k i) (r i))) :
    ∀ i, i ≤ n → Ev (fun k => loop k i) (r i) := by
  intro i hi
  have : ∀ d i, i ≤ n → n - i = d → Ev (fun k => loop k i) (r i) := by
    intro d
    induction d with
    | zero =>
      intro i hi hd
      have e : i = n := by omega
      rw [e]; exact hend
    | succ d ih =>
      intro i hi hd
      exact hstep i (by omega) (ih (i + 1) (by omega) (by omega))
  exact this (n - i) i hi rfl
theorem succ_cast {i n : Nat} (h : i < n) (hn : n ≤ 9223372036854775807) : wrap64 ((i : Int) + 1) = ((i + 1 : Nat) : Int) := by
  rw [wrap_id (by omega) (by omega)]; rfl
end Go.Proofs.YteffcgocnkcpiaaDoor.Plain

/- The law's own functions over lists of whole numbers: copies, equality, bounds. No condition but lengths that fit. -/
namespace Go.Proofs.YteffcgocnkcpiaaDoor.Plain
open Go.RowKit Go.Proofs.YteffcgocnkcpiaaDoorW.PrintWords Go.Proofs.YteffcgocnkcpiaaDoorW.PrintLast
set_option linter.unusedVariables false
open Q

theorem copy_step (l : List Int) (i : Nat) (h : i < l.length) :
    (l.take i ++ List.replicate (l.length - i) (0 : Int)).set ((i : Int)).toNat (rd l (i : Int)) = l.take (i + 1) ++ List.replicate (l.length - (i + 1)) (0 : Int) := by
  have e : l.length - i = (l.length - (i + 1)) + 1 := by omega
  have hl : (l.take i).length = i := by simp; omega
  rw [Int.toNat_natCast, rd_at h, e, List.replicate_succ, List.set_append_right _ _ (by omega), hl, Nat.sub_self, List.set_cons_zero, List.take_succ_eq_append_getElem h, List.append_assoc]
  rfl

theorem toIntS_ev (l : List Int) (h : l.length ≤ 35184372088832) : Ev (fun k => laws_toIntS.f k l) l := by
  refine Ev.congr (f := fun k => laws_toIntS.l0 k l (List.replicate l.length 0) 0) (fun k => ?_) ?_
  · unfold laws_toIntS.f
    rw [if_pos (by omega), if_pos (by omega), Int.toNat_natCast]
  · have q := ev_up (n := l.length) (loop := fun k i => laws_toIntS.l0 k l (l.take i ++ List.replicate (l.length - i) 0) (i : Int)) (r := fun _ => l)
      (Ev.step (f := fun _ => some l) (fun k => by simp [laws_toIntS.l0]) (Ev.now l))
      (fun i hi ih => Ev.step (f := fun k => laws_toIntS.l0 k l (l.take (i + 1) ++ List.replicate (l.length - (i + 1)) 0) ((i + 1 : Nat) : Int)) (fun k => by
        simp only [laws_toIntS.l0]
        rw [if_pos (by omega), if_pos (by omega), if_pos (by simp; omega), copy_step l i hi, succ_cast hi (by omega)]) ih) 0 (Nat.zero_le _)
    simpa using q

theorem eqIntS_ev (l : List Int) (h : l.length ≤ 9223372036854775807) : Ev (fun k => laws_eqIntS.f k l l) true := by
  refine Ev.congr (f := fun k => laws_eqIntS.l0 k l l 0) (fun k => ?_) ?_
  · unfold laws_eqIntS.f
    rw [if_pos rfl]
  · exact ev_up (n := l.length) (loop := fun k i => laws_eqIntS.l0 k l l (i : Int)) (r := fun _ => true)
      (Ev.step (f := fun _ => some true) (fun k => by simp [laws_eqIntS.l0]) (Ev.now true))
      (fun i hi ih => Ev.step (f := fun k => laws_eqIntS.l0 k l l ((i + 1 : Nat) : Int)) (fun k => by
        simp only [laws_eqIntS.l0]
        rw [if_pos (by omega), if_pos (by omega), if_pos (by omega), if_pos trivial, succ_cast hi h]) ih) 0 (Nat.zero_le _)

theorem l1In_eq (a b c : Int) : spec_l1In.f a b c = some (decide (b ≤ a) && decide (a ≤ c)) := by
  unfold spec_l1In.f
  by_cases h : b ≤ a <;> simp [h]

theorem within_eq (a b c : Int) : impl_within.f a b c = some (decide (b ≤ a) && decide (a ≤ c)) := by
  unfold impl_within.f
  by_cases h : b ≤ a <;> simp [h]

theorem l1All_ev (l : List Int) (lo hi : Int) (h : l.length ≤ 9223372036854775807) : Ev (fun k => spec_l1All.f k l lo hi) (l.all fun x => decide (lo ≤ x) && decide (x ≤ hi)) := by
  have q := ev_up (n := l.length) (loop := fun k i => spec_l1All.l0 k lo hi l (l.length : Int) (i : Int)) (r := fun i => (l.drop i).all fun x => decide (lo ≤ x) && decide (x ≤ hi))
    (Ev.step (f := fun _ => some true) (fun k => by simp [spec_l1All.l0]) (by simpa using Ev.now true))
    (fun i hi' ih => by
      have e : (l.drop i).all (fun x => decide (lo ≤ x) && decide (x ≤ hi)) = ((decide (lo ≤ l[i]) && decide (l[i] ≤ hi)) && (l.drop (i + 1)).all fun x => decide (lo ≤ x) && decide (x ≤ hi)) := by
        rw [List.drop_eq_getElem_cons hi', List.all_cons]
      rw [e]
      cases hb : (decide (lo ≤ l[i]) && decide (l[i] ≤ hi)) with
      | true =>
        refine Ev.step (f := fun k => spec_l1All.l0 k lo hi l (l.length : Int) ((i + 1 : Nat) : Int)) (fun k => ?_) (by simpa using ih)
        simp only [spec_l1All.l0]
        rw [if_pos (by omega), if_pos (by omega), if_pos (by omega), l1In_eq, rd_at hi', hb, Option.bind_some, if_pos rfl, succ_cast hi' h]
      | false =>
        refine Ev.step (f := fun _ => some false) (fun k => ?_) (by simpa using Ev.now false)
        simp only [spec_l1All.l0]
        rw [if_pos (by omega), if_pos (by omega), if_pos (by omega), l1In_eq, rd_at hi', hb, Option.bind_some, if_neg (by simp)]) 0 (Nat.zero_le _)
  simpa [spec_l1All.f] using q

theorem szIntS_eq (l : List Int) (a : Int) (h0 : 0 ≤ a) (h1 : a ≤ 1048576) (h : l.length ≤ 9223372036854775807) : laws_szIntS.f l a = some (if a < (l.length : Int) then -1 else a - l.length) := by
  unfold laws_szIntS.f
  rw [wrap_id (by omega) (by omega)]
  by_cases hl : a < (l.length : Int)
  · rw [if_pos (by omega), if_pos hl]
  · rw [if_neg (by omega), if_neg hl]
end Go.Proofs.YteffcgocnkcpiaaDoor.Plain

/- Parties: both sides' tests, and the law's own functions over parties. No condition but lengths that fit. -/
namespace Go.Proofs.YteffcgocnkcpiaaDoor.Plain
open Go.RowKit Go.Proofs.YteffcgocnkcpiaaDoorW.PrintWords Go.Proofs.YteffcgocnkcpiaaDoorW.PrintLast
set_option linter.unusedVariables false
open Q

/-! What a party is, in words of numbers. -/
end Go.Proofs.YteffcgocnkcpiaaDoor.Plain

/- A party as a relation between people; sets of people as numbers; how many hold. Plain lemmas. No condition. -/
namespace Go.Proofs.YteffcgocnkcpiaaDoor.Plain
open Go.RowKit Go.Proofs.YteffcgocnkcpiaaDoorW.PrintWords Go.Proofs.YteffcgocnkcpiaaDoorW.PrintLast
set_option linter.unusedVariables false
open Q

/-! Sets of people as numbers. -/
def maskOf (f : Nat → Bool) : Nat → Nat
  | 0 => 0
  | n + 1 => maskOf f n + (if f n = true then 2 ^ n else 0)

theorem maskOf_lt (f : Nat → Bool) : ∀ n, maskOf f n < 2 ^ n
  | 0 => by simp [maskOf]
  | n + 1 => by
    have := maskOf_lt f n
    unfold maskOf
    rw [Nat.pow_succ]
    split <;> omega

theorem maskOf_bit (f : Nat → Bool) : ∀ n b, (maskOf f n).testBit b = (decide (b < n) && f b)
  | 0, b => by simp [maskOf]
  | n + 1, b => by
    have ih := maskOf_bit f n b
    have hlt := maskOf_lt f n
    unfold maskOf
    by_cases h : f n = true
    · rw [if_pos h, Nat.add_comm]
      rcases Nat.lt_trichotomy b n with hb | rfl | hb
      · rw [Nat.testBit_two_pow_add_gt hb, ih]
        simp [hb, Nat.lt_succ_of_lt hb]
      · rw [Nat.testBit_two_pow_add_eq, Nat.testBit_lt_two_pow hlt]
        simp [h]
      · have h1 : 2 ^ (n + 1) ≤ 2 ^ b := Nat.pow_le_pow_right (by omega) (by omega)
        rw [Nat.pow_succ] at h1
        rw [Nat.testBit_lt_two_pow (by omega)]
        simp; omega
    · rw [if_neg h, Nat.add_zero, ih]
      by_cases e : b = n
      · subst e
        simp [Bool.eq_false_iff.mpr h]
      · have : decide (b < n + 1) = decide (b < n) := by
          apply decide_eq_decide.mpr; omega
        rw [this]

theorem maskOf_congr {f g : Nat → Bool} : ∀ {n}, (∀ b, b < n → f b = g b) → maskOf f n = maskOf g n
  | 0, _ => rfl
  | n + 1, h => by
    unfold maskOf
    rw [maskOf_congr (n := n) (fun b hb => h b (by omega)), h n (by omega)]

theorem mask_or (f g : Nat → Bool) (n : Nat) : maskOf f n ||| maskOf g n = maskOf (fun b => f b || g b) n := by
  apply Nat.eq_of_testBit_eq
  intro b
  rw [Nat.testBit_or, maskOf_bit, maskOf_bit, maskOf_bit]
  cases decide (b < n) <;> simp
theorem mask_and (f g : Nat → Bool) (n : Nat) : maskOf f n &&& maskOf g n = maskOf (fun b => f b && g b) n := by
  apply Nat.eq_of_testBit_eq
  intro b
  rw [Nat.testBit_and, maskOf_bit, maskOf_bit, maskOf_bit]
  cases decide (b < n) <;> simp
theorem mask_one {n b : Nat} (h : b < n) : (2 ^ b : Nat) = maskOf (fun c => decide (c = b)) n := by
  apply Nat.eq_of_testBit_eq
  intro c
  rw [Nat.testBit_two_pow, maskOf_bit]
  by_cases e : b = c
  · subst e; simp [h]
  · have : ¬ (c = b) := fun q => e q.symm
    simp [e, this]

/-! How many hold. -/
def cnt (f : Nat → Bool) (n : Nat) : Nat := (List.range n).countP f
theorem cnt_le (f : Nat → Bool) (n : Nat) : cnt f n ≤ n := by
  unfold cnt
  have := List.countP_le_length (p := f) (l := List.range n)
  simpa using this
end Go.Proofs.YteffcgocnkcpiaaDoor.Plain

/- The program's table of a party: for each person its friends, as the bits of a number. No condition but lengths that fit. -/
namespace Go.Proofs.YteffcgocnkcpiaaDoor.Plain
open Go.RowKit Go.Proofs.YteffcgocnkcpiaaDoorW.PrintWords Go.Proofs.YteffcgocnkcpiaaDoorW.PrintLast
set_option linter.unusedVariables false
open Q

theorem wraps_u16 (n : Int) (h₀ : 0 ≤ n) (h₁ : n < 2 ^ 16) : IntKind.u16.wrap n = n := by
  have : IntKind.u16.wrap n = n % 65536 := by simp [IntKind.wrap, IntKind.bits, IntKind.signed]
  rw [this]; omega
theorem or16 {a b : Nat} (ha : a < 2 ^ 16) (hb : b < 2 ^ 16) : Go.bits .or .u16 (a : Int) (b : Int) = ((a ||| b : Nat) : Int) := (bits_nat .u16 16 (by decide) wraps_u16 a b ha hb).2
theorem and16 {a b : Nat} (ha : a < 2 ^ 16) (hb : b < 2 ^ 16) : Go.bits .and .u16 (a : Int) (b : Int) = ((a &&& b : Nat) : Int) := (bits_nat .u16 16 (by decide) wraps_u16 a b ha hb).1
theorem shl16 {b : Nat} (hb : b < 16) : shl .u16 1 (b : Int) = ((2 ^ b : Nat) : Int) := by
  unfold shl
  have h1 : min ((b : Int)).toNat IntKind.u16.bits = b := by
    rw [Int.toNat_natCast]
    exact Nat.min_eq_left (by show b ≤ 16; omega)
  rw [h1, Int.one_mul, wraps_u16]
  · simp
  · exact Int.pow_nonneg (by decide)
  · have : (2 : Nat) ^ b < 2 ^ 16 := Nat.pow_lt_pow_right (by omega) hb
    exact_mod_cast this

/-- The table of a relation of n people. -/
def tabF (n : Nat) (f : Nat → Nat → Bool) : List Int := (List.range n).map fun a => ((maskOf (f a) n : Nat) : Int)
theorem tabF_length (n : Nat) (f : Nat → Nat → Bool) : (tabF n f).length = n := by simp [tabF]
theorem tabF_get {n : Nat} {f : Nat → Nat → Bool} {a : Nat} (h : a < n) : rd (tabF n f) (a : Int) = ((maskOf (f a) n : Nat) : Int) := by
  rw [rd_at (by rw [tabF_length]; exact h)]
  simp [tabF]
theorem tabF_congr {n : Nat} {f g : Nat → Nat → Bool} (h : ∀ a b, a < n → b < n → f a b = g a b) : tabF n f = tabF n g := by
  unfold tabF
  apply List.map_congr_left
  intro a ha
  rw [maskOf_congr (fun b hb => h a b (by simpa using ha) hb)]
theorem mask16 {f : Nat → Bool} {n : Nat} (h : n ≤ 16) : maskOf f n < 2 ^ 16 := Nat.lt_of_lt_of_le (maskOf_lt f n) (Nat.pow_le_pow_right (by omega) h)

/-- The relation with two people made friends. -/
def withP (f : Nat → Nat → Bool) (a b : Nat) : Nat → Nat → Bool := fun c d => f c d || ((decide (c = a) && decide (d = b)) || (decide (c = b) && decide (d = a)))

/-- One pair put into the table, as both the loop and 'put' do it. -/
theorem tab_put {n : Nat} (hn : n ≤ 16) (f : Nat → Nat → Bool) {a b : Nat} (ha : a < n) (hb : b < n) (hab : a ≠ b) :
    ((tabF n f).set a (Go.bits .or .u16 (rd (tabF n f) (a : Int)) (shl .u16 1 (b : Int)))).set b
      (Go.bits .or .u16 (rd ((tabF n f).set a (Go.bits .or .u16 (rd (tabF n f) (a : Int)) (shl .u16 1 (b : Int)))) (b : Int)) (shl .u16 1 (a : Int))) = tabF n (withP f a b) := by
  have e1 : Go.bits .or .u16 (rd (tabF n f) (a : Int)) (shl .u16 1 (b : Int)) = ((maskOf (withP f a b a) n : Nat) : Int) := by
    rw [tabF_get ha, shl16 (by omega), or16 (mask16 hn) (Nat.pow_lt_pow_right (by omega) (by omega)), mask_one hb, mask_or]
    congr 1
    apply maskOf_congr
    intro c _
    unfold withP
    simp [hab]
  have e2 : rd ((tabF n f).set a (Go.bits .or .u16 (rd (tabF n f) (a : Int)) (shl .u16 1 (b : Int)))) (b : Int) = ((maskOf (f b) n : Nat) : Int) := by
    rw [rd_at (by rw [List.length_set, tabF_length]; exact hb), List.getElem_set_ne hab]
    simp [tabF]
  have e3 : Go.bits .or .u16 ((maskOf (f b) n : Nat) : Int) (shl .u16 1 (a : Int)) = ((maskOf (withP f a b b) n : Nat) : Int) := by
    rw [shl16 (by omega), or16 (mask16 hn) (Nat.pow_lt_pow_right (by omega) (by omega)), mask_one ha, mask_or]
    congr 1
    apply maskOf_congr
    intro c _
    unfold withP
    simp [show ¬ (b = a) from fun q => hab q.symm]
  rw [e2, e3, e1]
  apply List.ext_getElem
  · simp [tabF_length]
  · intro i h1 h2
    rw [tabF_length] at h2
    rw [List.getElem_set, List.getElem_set]
    by_cases i1 : b = i
    · subst i1
      rw [if_pos rfl]
      simp [tabF]
    · rw [if_neg i1]
      by_cases i2 : a = i
      · subst i2
        rw [if_pos rfl]
        simp [tabF]
      · rw [if_neg i2]
        simp only [tabF, List.getElem_map, List.getElem_range]
        congr 1
        apply maskOf_congr
        intro c _
        unfold withP
        simp [show ¬ (i = a) from fun q => i2 q.symm, show ¬ (i = b) from fun q => i1 q.symm]

end Go.Proofs.YteffcgocnkcpiaaDoor.Plain

/- The reference's table of a party: for each person, of each person, whether they are friends. No condition but lengths that fit. -/
namespace Go.Proofs.YteffcgocnkcpiaaDoor.Plain
open Go.RowKit Go.Proofs.YteffcgocnkcpiaaDoorW.PrintWords Go.Proofs.YteffcgocnkcpiaaDoorW.PrintLast
set_option linter.unusedVariables false
open Q

end Go.Proofs.YteffcgocnkcpiaaDoor.Plain

/- The party of a table, on both sides. No condition but that there are at most twelve people. -/
namespace Go.Proofs.YteffcgocnkcpiaaDoor.Plain
open Go.RowKit Go.Proofs.YteffcgocnkcpiaaDoorW.PrintWords Go.Proofs.YteffcgocnkcpiaaDoorW.PrintLast
set_option linter.unusedVariables false
open Q

end Go.Proofs.YteffcgocnkcpiaaDoor.Plain

/- One pair put into a table, on both sides; the empty tables. No condition but that there are at most twelve people. -/
namespace Go.Proofs.YteffcgocnkcpiaaDoor.Plain
open Go.RowKit Go.Proofs.YteffcgocnkcpiaaDoorW.PrintWords Go.Proofs.YteffcgocnkcpiaaDoorW.PrintLast
set_option linter.unusedVariables false
open Q

theorem put_eq {n : Nat} (hn : n ≤ 12) (f : Nat → Nat → Bool) {a b : Nat} (ha : a < n) (hb : b < n) (hab : a ≠ b) : impl_table_put.f (tabF n f) (a : Int) (b : Int) = some (tabF n (withP f a b)) := by
  have h := tab_put (n := n) (by omega) f ha hb hab
  unfold impl_table_put.f
  rw [if_pos (by omega), if_pos (by rw [tabF_length]; omega), if_pos (by omega), Option.bind_some, if_pos (by rw [tabF_length]; omega), Int.toNat_natCast, Int.toNat_natCast, h]

theorem tabF_zero (n : Nat) : List.replicate n 0 = tabF n (fun _ _ => false) := by
  have hz : ∀ m, maskOf (fun _ => false) m = 0 := by
    intro m
    induction m with
    | zero => rfl
    | succ m ih => unfold maskOf; rw [ih]; simp
  symm
  unfold tabF
  rw [List.eq_replicate_iff]
  refine ⟨by simp, fun b hb => ?_⟩
  obtain ⟨a, _, rfl⟩ := List.mem_map.1 hb
  rw [hz]; rfl

end Go.Proofs.YteffcgocnkcpiaaDoor.Plain

/- A symmetric relation put into a table row by row, each pair once; the pairs of a relation. No condition. -/
namespace Go.Proofs.YteffcgocnkcpiaaDoor.Plain
open Go.RowKit Go.Proofs.YteffcgocnkcpiaaDoorW.PrintWords Go.Proofs.YteffcgocnkcpiaaDoorW.PrintLast
set_option linter.unusedVariables false
open Q

/-- A relation, when the rows before i and j cells of row i are seen. -/
def seenG (g : Nat → Nat → Bool) (i j : Nat) : Nat → Nat → Bool := fun a b => g a b && decide ((b < a ∧ (a < i ∨ (a = i ∧ b < j))) ∨ (a < b ∧ (b < i ∨ (b = i ∧ a < j))))
theorem seenG_yes {g : Nat → Nat → Bool} (hg : ∀ a b, g a b = g b a) {i j : Nat} (hj : j < i) (h : g i j = true) : withP (seenG g i j) i j = seenG g i (j + 1) := by
  funext c d
  unfold withP seenG
  by_cases h1 : c = i ∧ d = j
  · obtain ⟨rfl, rfl⟩ := h1
    rw [h]
    simp [hj]
  · by_cases h2 : c = j ∧ d = i
    · obtain ⟨rfl, rfl⟩ := h2
      rw [hg c d, h]
      simp [hj]
    · have e1 : (decide (c = i) && decide (d = j)) = false := by rw [Bool.eq_false_iff]; intro q; exact h1 (by simpa using q)
      have e2 : (decide (c = j) && decide (d = i)) = false := by rw [Bool.eq_false_iff]; intro q; exact h2 (by simpa using q)
      rw [e1, e2, Bool.or_false, Bool.or_false]
      congr 1
      apply decide_eq_decide.mpr
      omega
theorem seenG_no {g : Nat → Nat → Bool} (hg : ∀ a b, g a b = g b a) {i j : Nat} (hj : j < i) (h : g i j = false) : seenG g i j = seenG g i (j + 1) := by
  funext c d
  unfold seenG
  by_cases h1 : c = i ∧ d = j
  · obtain ⟨rfl, rfl⟩ := h1
    rw [h]; rfl
  · by_cases h2 : c = j ∧ d = i
    · obtain ⟨rfl, rfl⟩ := h2
      rw [hg c d, h]; rfl
    · congr 1
      apply decide_eq_decide.mpr
      omega
theorem seenG_row (g : Nat → Nat → Bool) (i : Nat) : seenG g i i = seenG g (i + 1) 0 := by
  funext c d
  unfold seenG
  congr 1
  apply decide_eq_decide.mpr
  omega
theorem seenG_zero (g : Nat → Nat → Bool) : seenG g 0 0 = fun _ _ => false := by
  funext c d
  unfold seenG
  rw [decide_eq_false (by omega), Bool.and_false]
end Go.Proofs.YteffcgocnkcpiaaDoor.Plain

/- Paintings: both sides' tests, and the law's own functions over paintings. No condition but lengths that fit. -/
namespace Go.Proofs.YteffcgocnkcpiaaDoor.Plain
open Go.RowKit Go.Proofs.YteffcgocnkcpiaaDoorW.PrintWords Go.Proofs.YteffcgocnkcpiaaDoorW.PrintLast
set_option linter.unusedVariables false
open Q

/-- A painting: so many people, so many colours, a colour for each pair. -/
def painted (n c : Int) (l : List Int) : Bool := (decide (0 ≤ n) && decide (n ≤ 8)) && ((decide (1 ≤ c) && decide (c ≤ 3)) && (decide ((l.length : Int) = n * (n - 1) / 2) && l.all fun x => decide (0 ≤ x) && decide (x ≤ c - 1)))

theorem szPainting_eq (n c : Int) (l : List Int) (a : Int) (h0 : 0 ≤ a) (h1 : a ≤ 1048576) (h : l.length ≤ 9223372036854775807) : laws_szPainting.f n c l a = some (if a < (l.length : Int) then -1 else a - l.length) := by
  unfold laws_szPainting.f
  rw [szIntS_eq l a h0 h1 h, Option.bind_some]
  by_cases hl : a < (l.length : Int)
  · rw [if_pos hl, if_pos (by omega)]
  · rw [if_neg hl, if_neg (by omega)]

theorem toPainting_ev (n c : Int) (l : List Int) (h : l.length ≤ 35184372088832) : Ev (fun k => laws_toPainting.f k n c l) (n, c, l) := by
  refine Ev.bind (f := fun _ t => some (n, c, t)) (toIntS_ev l h) (Ev.now _)

theorem eqPainting_ev (n c : Int) (l : List Int) (h : l.length ≤ 9223372036854775807) : Ev (fun k => laws_eqPainting.f k n c l n c l) true := by
  refine Ev.congr (f := fun k => (laws_eqIntS.f k l l).bind fun t => if t = true then some true else some false) (fun k => ?_) ?_
  · unfold laws_eqPainting.f
    rw [if_pos rfl, if_pos rfl]
  · exact Ev.bind (f := fun _ t => if t = true then some true else some false) (eqIntS_ev l h) (ev_some (fun _ => rfl))

theorem pairs_of {n : Int} (h0 : 0 ≤ n) (h1 : n ≤ 8) : wrap64 (Int.tdiv (wrap64 (n * (wrap64 (n - 1)))) 2) = n * (n - 1) / 2 := by
  have : n = 0 ∨ n = 1 ∨ n = 2 ∨ n = 3 ∨ n = 4 ∨ n = 5 ∨ n = 6 ∨ n = 7 ∨ n = 8 := by omega
  rcases this with rfl | rfl | rfl | rfl | rfl | rfl | rfl | rfl | rfl <;> decide +kernel

theorem choose_two {n : Int} (h0 : 0 ≤ n) (h1 : n ≤ 8) : Ev (fun k => impl_choose.f k n 2) (n * (n - 1) / 2) := by
  refine Ev.of (fun k => impl_choose.mono n 2 k) (k := 10) ?_
  have : n = 0 ∨ n = 1 ∨ n = 2 ∨ n = 3 ∨ n = 4 ∨ n = 5 ∨ n = 6 ∨ n = 7 ∨ n = 8 := by omega
  rcases this with rfl | rfl | rfl | rfl | rfl | rfl | rfl | rfl | rfl <;> decide +kernel

theorem ptGood_ev (n c : Int) (l : List Int) (h : l.length ≤ 9223372036854775807) : Ev (fun k => spec_ptGood.f k n c l) (painted n c l) := by
  unfold spec_ptGood.f
  refine ev_bind0 (l1In_eq _ _ _) ?_
  refine ev_if (fun b1 => ?_) (fun b1 => ?_)
  · refine ev_bind0 (l1In_eq _ _ _) ?_
    refine ev_if (fun b2 => ?_) (fun b2 => ?_)
    · have c1 : 0 ≤ n ∧ n ≤ 8 := by simpa using b1
      have c2 : 1 ≤ c ∧ c ≤ 3 := by simpa using b2
      rw [pairs_of c1.1 c1.2, wrap_id (x := c - 1) (by omega) (by omega)]
      refine ev_if (fun b3 => ?_) (fun b3 => ?_)
      · have e : painted n c l = l.all fun x => decide (0 ≤ x) && decide (x ≤ c - 1) := by
          unfold painted
          rw [b1, b2, decide_eq_true b3]; simp
        rw [e]
        exact Ev.bind (f := fun _ t => some t) (l1All_ev l _ _ h) (Ev.now _)
      · have e : painted n c l = false := by
          unfold painted
          rw [decide_eq_false b3]; simp
        rw [e]; exact Ev.now _
    · have e : painted n c l = false := by
        unfold painted
        rw [Bool.eq_false_iff.mpr b2]; simp
      rw [e]; exact Ev.now _
  · have e : painted n c l = false := by
      unfold painted
      rw [Bool.eq_false_iff.mpr b1]; simp
    rw [e]; exact Ev.now _

theorem isPainting_ev (n c : Int) (l : List Int) (h : l.length ≤ 9223372036854775807) : Ev (fun k => impl_IsPainting.f k n c l) (painted n c l) := by
  unfold impl_IsPainting.f
  have hp : impl_isPainted.f n c = some ((decide (0 ≤ n) && decide (n ≤ 8)) && (decide (1 ≤ c) && decide (c ≤ 3))) := by
    unfold impl_isPainted.f
    rw [within_eq, within_eq, Option.bind_some]
    cases (decide (0 ≤ n) && decide (n ≤ 8)) <;> simp
  refine ev_bind0 hp ?_
  refine ev_if (fun b1 => ?_) (fun b1 => ?_)
  · have c1 : (0 ≤ n ∧ n ≤ 8) ∧ (1 ≤ c ∧ c ≤ 3) := by simpa using b1
    refine Ev.bind (choose_two c1.1.1 c1.1.2) ?_
    rw [wrap_id (x := c - 1) (by omega) (by omega)]
    refine ev_if (fun b3 => ?_) (fun b3 => ?_)
    · have e : painted n c l = l.all fun x => decide (0 ≤ x) && decide (x ≤ c - 1) := by
        unfold painted
        rw [← Bool.and_assoc, b1, decide_eq_true b3]; simp
      rw [e]
      exact ev_some (fun _ => rfl)
    · have e : painted n c l = false := by
        unfold painted
        rw [decide_eq_false b3]; simp
      rw [e]; exact Ev.now _
  · have e : painted n c l = false := by
      unfold painted
      rw [← Bool.and_assoc, Bool.eq_false_iff.mpr b1]; simp
    rw [e]; exact Ev.now _
end Go.Proofs.YteffcgocnkcpiaaDoor.Plain

/- The place of a pair among the pairs of a painting, and its colour, on both sides. No condition but lengths that fit. -/
namespace Go.Proofs.YteffcgocnkcpiaaDoor.Plain
open Go.RowKit Go.Proofs.YteffcgocnkcpiaaDoorW.PrintWords Go.Proofs.YteffcgocnkcpiaaDoorW.PrintLast
set_option linter.unusedVariables false
open Q

/-- The place of a pair among those of n people. -/
def placeOf (n a b : Int) : Int := if a > b then b * (2 * n - b - 1) / 2 + a - b - 1 else a * (2 * n - a - 1) / 2 + b - a - 1

theorem place_all : ∀ n : Fin 9, ∀ a : Fin 9, ∀ b : Fin 9, a.val < n.val → b.val < n.val → a.val ≠ b.val →
    spec_ptAt.f (n.val : Int) (a.val : Int) (b.val : Int) = some (placeOf n.val a.val b.val) ∧ impl_place.f (n.val : Int) (a.val : Int) (b.val : Int) = some (placeOf n.val a.val b.val) ∧
      0 ≤ placeOf n.val a.val b.val ∧ placeOf n.val a.val b.val < (n.val : Int) * ((n.val : Int) - 1) / 2 := by decide +kernel

/-- Two different people of a painting. -/
def two (n c : Int) (l : List Int) (a b : Int) : Bool := painted n c l && ((decide (0 ≤ a) && decide (a ≤ n - 1)) && ((decide (0 ≤ b) && decide (b ≤ n - 1)) && (a != b)))

theorem painted_of {n c : Int} {l : List Int} (h : painted n c l = true) : 0 ≤ n ∧ n ≤ 8 ∧ 1 ≤ c ∧ c ≤ 3 ∧ (l.length : Int) = n * (n - 1) / 2 ∧ ∀ x ∈ l, 0 ≤ x ∧ x ≤ c - 1 := by
  unfold painted at h
  simp only [Bool.and_eq_true, decide_eq_true_eq, List.all_eq_true] at h
  obtain ⟨⟨h1, h2⟩, ⟨h3, h4⟩, h5, h6⟩ := h
  exact ⟨h1, h2, h3, h4, h5, h6⟩

theorem two_of {n c : Int} {l : List Int} {a b : Int} (h : two n c l a b = true) : painted n c l = true ∧ (0 ≤ a ∧ a ≤ n - 1) ∧ (0 ≤ b ∧ b ≤ n - 1) ∧ a ≠ b := by
  unfold two at h
  simp only [Bool.and_eq_true, decide_eq_true_eq, bne_iff_ne, ne_eq] at h
  obtain ⟨h0, h1, h2, h3⟩ := h
  exact ⟨h0, h1, h2, h3⟩

theorem place_two {n c : Int} {l : List Int} {a b : Int} (h : two n c l a b = true) :
    spec_ptAt.f n a b = some (placeOf n a b) ∧ impl_place.f n a b = some (placeOf n a b) ∧ 0 ≤ placeOf n a b ∧ placeOf n a b < (l.length : Int) := by
  obtain ⟨hp, h1, h2, h3⟩ := two_of h
  obtain ⟨p1, p2, _, _, p5, _⟩ := painted_of hp
  have q := place_all ⟨n.toNat, by omega⟩ ⟨a.toNat, by omega⟩ ⟨b.toNat, by omega⟩ (by show a.toNat < n.toNat; omega) (by show b.toNat < n.toNat; omega) (by show a.toNat ≠ b.toNat; omega)
  have en : ((n.toNat : Nat) : Int) = n := by omega
  have ea : ((a.toNat : Nat) : Int) = a := by omega
  have eb : ((b.toNat : Nat) : Int) = b := by omega
  simp only [en, ea, eb] at q
  rw [p5]
  exact q

theorem ptOf_eq {n c : Int} {l : List Int} {a b : Int} (h : two n c l a b = true) : spec_ptOf.f n c l a b = some (rd l (placeOf n a b)) := by
  obtain ⟨h1, _, h3, h4⟩ := place_two h
  unfold spec_ptOf.f
  rw [h1, Option.bind_some, if_pos h3, if_pos h4]

theorem of_eq {n c : Int} {l : List Int} {a b : Int} (h : two n c l a b = true) : impl_Painting_of.f n c l a b = some (rd l (placeOf n a b)) := by
  obtain ⟨_, h2, h3, h4⟩ := place_two h
  unfold impl_Painting_of.f
  rw [h2, Option.bind_some, if_pos h3, if_pos h4]

end Go.Proofs.YteffcgocnkcpiaaDoor.Plain

/- The party of a colour, on both sides. No condition but a painting. -/
namespace Go.Proofs.YteffcgocnkcpiaaDoor.Plain
open Go.RowKit Go.Proofs.YteffcgocnkcpiaaDoorW.PrintWords Go.Proofs.YteffcgocnkcpiaaDoorW.PrintLast
set_option linter.unusedVariables false
open Q

/-- Who is joined in a colour. -/
def colF (n : Nat) (l : List Int) (q : Int) : Nat → Nat → Bool := fun a b => decide (rd l (placeOf (n : Int) (a : Int) (b : Int)) = q)
theorem colF_comm (n : Nat) (l : List Int) (q : Int) (a b : Nat) : colF n l q a b = colF n l q b a := by
  unfold colF placeOf
  by_cases h : (a : Int) > (b : Int)
  · rw [if_pos h, if_neg (by omega)]
  · by_cases h2 : (b : Int) > (a : Int)
    · rw [if_neg h, if_pos h2]
    · have : a = b := by omega
      subst this; rfl

theorem two_in {n : Nat} {c : Int} {l : List Int} (h : painted (n : Int) c l = true) {a b : Nat} (ha : a < n) (hb : b < n) (hab : a ≠ b) : two (n : Int) c l (a : Int) (b : Int) = true := by
  unfold two
  rw [h]
  simp only [Bool.true_and, Bool.and_eq_true, decide_eq_true_eq, bne_iff_ne, ne_eq]
  refine ⟨⟨by omega, by omega⟩, ⟨by omega, by omega⟩, by omega⟩

theorem inColour_ev {n : Nat} {c : Int} {l : List Int} (hp : painted (n : Int) c l = true) (q : Int) : Ev (fun k => impl_Painting_inColour.f k (n : Int) c l q) (tabF n (seenG (colF n l q) n 0)) := by
  have hn : n ≤ 8 := by have := (painted_of hp).2.1; omega
  have hg := colF_comm n l q
  have q1 := ev_up (n := n) (loop := fun k i => impl_Painting_inColour.l0 k q (tabF n (seenG (colF n l q) i 0)) (n : Int) (i : Int) (n : Int) c l) (r := fun _ => tabF n (seenG (colF n l q) n 0))
    (Ev.step (f := fun _ => some (tabF n (seenG (colF n l q) n 0))) (fun k => by simp only [impl_Painting_inColour.l0]; rw [if_neg (by omega)]) (Ev.now _))
    (fun i hi ih => by
      have q2 := ev_up (n := i) (loop := fun k j => impl_Painting_inColour.l1 k q (tabF n (seenG (colF n l q) i j)) (i : Int) (n : Int) (i : Int) (i : Int) (j : Int) (n : Int) c l) (r := fun _ => tabF n (seenG (colF n l q) n 0))
        (by
          refine Ev.step (f := fun k => impl_Painting_inColour.l0 k q (tabF n (seenG (colF n l q) (i + 1) 0)) (n : Int) ((i + 1 : Nat) : Int) (n : Int) c l) (fun k => ?_) ih
          simp only [impl_Painting_inColour.l1]
          rw [if_neg (by omega), seenG_row, succ_cast hi (by omega)])
        (fun j hj ih2 => by
          have hjn : j < n := by omega
          have hof := of_eq (two_in hp hi hjn (by omega))
          refine Ev.step (f := fun k => impl_Painting_inColour.l1 k q (tabF n (seenG (colF n l q) i (j + 1))) (i : Int) (n : Int) (i : Int) (i : Int) ((j + 1 : Nat) : Int) (n : Int) c l) (fun k => ?_) ih2
          simp only [impl_Painting_inColour.l1]
          rw [if_pos (by omega), hof, Option.bind_some]
          by_cases c1 : rd l (placeOf (n : Int) (i : Int) (j : Int)) = q
          · rw [if_pos c1, put_eq (by omega) _ hi hjn (by omega), Option.bind_some, succ_cast hj (by omega), seenG_yes hg hj (decide_eq_true c1)]
          · rw [if_neg c1, succ_cast hj (by omega), seenG_no hg hj (decide_eq_false c1)]) 0 (Nat.zero_le _)
      refine Ev.step (f := fun k => impl_Painting_inColour.l1 k q (tabF n (seenG (colF n l q) i 0)) (i : Int) (n : Int) (i : Int) (i : Int) 0 (n : Int) c l) (fun k => ?_) (by simpa using q2)
      simp only [impl_Painting_inColour.l0]
      rw [if_pos (by omega)]) 0 (Nat.zero_le _)
  rw [seenG_zero] at q1
  refine Ev.congr (f := fun k => impl_Painting_inColour.l0 k q (tabF n (fun _ _ => false)) (n : Int) 0 (n : Int) c l) (fun k => ?_) q1
  unfold impl_Painting_inColour.f
  rw [if_pos (by omega), Int.toNat_natCast, if_pos (by omega), Option.bind_some, tabF_zero, tabF_length]
end Go.Proofs.YteffcgocnkcpiaaDoor.Plain

/- The places at which a test holds, as a list. No condition. -/
namespace Go.Proofs.YteffcgocnkcpiaaDoor.Plain
open Go.RowKit Go.Proofs.YteffcgocnkcpiaaDoorW.PrintWords Go.Proofs.YteffcgocnkcpiaaDoorW.PrintLast
set_option linter.unusedVariables false
open Q

/-- The numbers less than n at which f holds, from i on. -/
def posFrom (f : Nat → Bool) (n i : Nat) : List Int := (((List.range n).drop i).filter f).map fun b : Nat => (b : Int)
def posL (f : Nat → Bool) (n : Nat) : List Int := posFrom f n 0
theorem posFrom_end (f : Nat → Bool) {n i : Nat} (h : n ≤ i) : posFrom f n i = [] := by
  unfold posFrom
  rw [List.drop_eq_nil_of_le (by simpa using h)]; rfl
theorem posFrom_step (f : Nat → Bool) {n i : Nat} (h : i < n) : posFrom f n i = (if f i = true then [(i : Int)] else []) ++ posFrom f n (i + 1) := by
  unfold posFrom
  rw [List.drop_eq_getElem_cons (by simpa using h), List.getElem_range, List.filter_cons]
  by_cases c : f i = true
  · rw [if_pos c, if_pos c]; rfl
  · rw [if_neg c, if_neg c]; rfl
theorem posL_length (f : Nat → Bool) (n : Nat) : (posL f n).length = cnt f n := by
  unfold posL posFrom cnt
  rw [List.length_map, List.drop_zero, List.countP_eq_length_filter]
theorem posL_le (f : Nat → Bool) (n : Nat) : (posL f n).length ≤ n := by rw [posL_length]; exact cnt_le _ _
theorem posL_congr {f g : Nat → Bool} {n : Nat} (h : ∀ b, b < n → f b = g b) : posL f n = posL g n := by
  unfold posL posFrom
  congr 1
  apply List.filter_congr
  intro b hb
  rw [List.drop_zero, List.mem_range] at hb
  exact h b hb
end Go.Proofs.YteffcgocnkcpiaaDoor.Plain

/- The numbers of the bits that are set. No condition. -/
-- over bits_TrailingZeros16.f
namespace Go.Proofs.YteffcgocnkcpiaaDoor.Plain
open Go.RowKit Go.Proofs.YteffcgocnkcpiaaDoorW.PrintWords Go.Proofs.YteffcgocnkcpiaaDoorW.PrintLast
set_option linter.unusedVariables false
open Q

theorem tz_low : ∀ (k m i : Nat), i < k → m.testBit i = true → (∀ j, j < i → m.testBit j = false) → tz k m = i
  | 0, _, _, h, _, _ => by omega
  | k + 1, m, i, h, h1, h2 => by
    unfold tz
    cases i with
    | zero =>
      rw [Nat.testBit_zero, decide_eq_true_eq] at h1
      rw [if_pos h1]
    | succ i =>
      have h0 := h2 0 (by omega)
      rw [Nat.testBit_zero, decide_eq_false_iff_not] at h0
      rw [if_neg h0, tz_low k (m / 2) i (by omega) (by rw [← Nat.testBit_succ]; exact h1) (fun j hj => by rw [← Nat.testBit_succ]; exact h2 (j + 1) (by omega))]

theorem clear_low {m t q : Nat} (h : m = 2 ^ t * (2 * q + 1)) (j : Nat) : (m &&& (m - 1)).testBit j = (m.testBit j && decide (j ≠ t)) := by
  have hp : 0 < 2 ^ t := Nat.two_pow_pos t
  have hm : m - 1 = 2 ^ t * (2 * q) + (2 ^ t - 1) := by rw [h, Nat.mul_add, Nat.mul_one]; omega
  rw [Nat.testBit_and, hm, Nat.testBit_two_pow_mul_add _ (by omega : 2 ^ t - 1 < 2 ^ t), Nat.testBit_two_pow_sub_one, h, Nat.testBit_two_pow_mul]
  by_cases c1 : j < t
  · rw [if_pos c1, decide_eq_false (show ¬ j ≥ t by omega)]; simp
  · rw [if_neg c1]
    by_cases c2 : j = t
    · subst c2; simp
    · obtain ⟨d, rfl⟩ : ∃ d, j = t + 1 + d := ⟨j - t - 1, by omega⟩
      rw [show t + 1 + d - t = d + 1 by omega]
      have a1 : (2 * q + 1).testBit (d + 1) = q.testBit d := by rw [Nat.testBit_succ, show (2 * q + 1) / 2 = q by omega]
      have a2 : (2 * q).testBit (d + 1) = q.testBit d := by rw [Nat.testBit_succ, show 2 * q / 2 = q by omega]
      rw [a1, a2, decide_eq_true (show t + 1 + d ≠ t by omega)]
      cases q.testBit d <;> simp

def restF (f : Nat → Bool) (i : Nat) : Nat → Bool := fun b => decide (i ≤ b) && f b
theorem rest_no {f : Nat → Bool} {i : Nat} (h : f i = false) : restF f i = restF f (i + 1) := by
  funext b
  unfold restF
  by_cases c : b = i
  · subst c; rw [h]; simp
  · rw [show decide (i ≤ b) = decide (i + 1 ≤ b) from decide_eq_decide.2 (by omega)]
theorem rest_yes {f : Nat → Bool} {n i : Nat} (hi : i < n) (hn : n ≤ 16) (h : f i = true) : tz 16 (maskOf (restF f i) n) = i ∧ maskOf (restF f i) n &&& (maskOf (restF f i) n - 1) = maskOf (restF f (i + 1)) n ∧ 0 < maskOf (restF f i) n := by
  have hb : (maskOf (restF f i) n).testBit i = true := by rw [maskOf_bit]; simp [restF, hi, h]
  have hl : ∀ j, j < i → (maskOf (restF f i) n).testBit j = false := by
    intro j hj
    rw [maskOf_bit]; simp [restF, show ¬ i ≤ j by omega]
  have h0 : 0 < maskOf (restF f i) n := by
    rcases Nat.eq_zero_or_pos (maskOf (restF f i) n) with c | c
    · rw [c, Nat.zero_testBit] at hb; cases hb
    · exact c
  have ht := tz_low 16 _ i (by omega) hb hl
  obtain ⟨t, q, _, h2, h3⟩ := tz_bit 16 (maskOf (restF f i) n) h0 (mask16 hn)
  have e : t = i := by rw [← h2]; exact ht
  subst e
  refine ⟨ht, ?_, h0⟩
  apply Nat.eq_of_testBit_eq
  intro j
  rw [clear_low h3, maskOf_bit, maskOf_bit]
  unfold restF
  by_cases c : j = t
  · rw [c, decide_eq_false (show ¬ t + 1 ≤ t by omega), decide_eq_false (show ¬ t ≠ t by simp)]; simp
  · rw [show decide (t ≤ j) = decide (t + 1 ≤ j) from decide_eq_decide.2 (by omega), decide_eq_true c, Bool.and_true]
end Go.Proofs.YteffcgocnkcpiaaDoor.Plain

/- The program's list of the set bits. Stands apart from WalkS, which says the same: import only one of the two. -/
namespace Go.Proofs.YteffcgocnkcpiaaDoor.Plain
open Go.RowKit Go.Proofs.YteffcgocnkcpiaaDoorW.PrintWords Go.Proofs.YteffcgocnkcpiaaDoorW.PrintLast
set_option linter.unusedVariables false
open Q

theorem listed_ev {n : Nat} (hn : n ≤ 16) (f : Nat → Bool) : Ev (fun k => impl_listed.f k ((maskOf f n : Nat) : Int)) (posL f n) := by
  have key : ∀ d i (out : List Int), n - i = d → i ≤ n → out.length ≤ i → Ev (fun k => impl_listed.l0 k ((maskOf (restF f i) n : Nat) : Int) out) (out ++ posFrom f n i) := by
    intro d
    induction d with
    | zero =>
      intro i out hd hi _
      obtain rfl : i = n := by omega
      have hz : maskOf (restF f i) i = 0 := by
        apply Nat.eq_of_testBit_eq
        intro j
        rw [maskOf_bit, Nat.zero_testBit]
        by_cases c : j < i
        · simp [restF, show ¬ i ≤ j by omega]
        · simp [c]
      rw [hz, posFrom_end _ (Nat.le_refl _), List.append_nil]
      exact Ev.step (f := fun _ => some out) (fun k => by simp only [impl_listed.l0]; rw [if_neg (by omega)]) (Ev.now _)
    | succ d ih =>
      intro i out hd hi ho
      have hi' : i < n := by omega
      rw [posFrom_step f hi']
      by_cases c : f i = true
      · obtain ⟨e1, e2, e3⟩ := rest_yes hi' hn c
        have hlt := mask16 (f := restF f i) hn
        have e4 : bits_TrailingZeros16.f ((maskOf (restF f i) n : Nat) : Int) = some (i : Int) := by
          unfold bits_TrailingZeros16.f
          rw [if_pos (by omega), if_neg (by omega), Int.toNat_natCast, e1]
        have e5 : IntKind.u16.wrap (((maskOf (restF f i) n : Nat) : Int) - 1) = ((maskOf (restF f i) n - 1 : Nat) : Int) := by
          rw [show ((maskOf (restF f i) n : Nat) : Int) - 1 = ((maskOf (restF f i) n - 1 : Nat) : Int) by omega]
          exact wraps_u16 _ (by omega) (by omega)
        rw [if_pos c, ← List.append_assoc]
        refine Ev.step (f := fun k => impl_listed.l0 k ((maskOf (restF f (i + 1)) n : Nat) : Int) (out ++ [(i : Int)])) (fun k => ?_) (ih (i + 1) _ (by omega) (by omega) (by simp; omega))
        simp only [impl_listed.l0]
        rw [if_pos (by omega), e4, Option.bind_some, if_pos (by omega), e5, and16 hlt (by omega), e2]
      · have c' : f i = false := by simpa using c
        rw [if_neg c, List.nil_append, rest_no c']
        exact ih (i + 1) out (by omega) (by omega) (by omega)
  have e : maskOf f n = maskOf (restF f 0) n := maskOf_congr (fun b _ => by simp [restF])
  rw [e]
  exact key n 0 [] (by omega) (by omega) (by simp)
end Go.Proofs.YteffcgocnkcpiaaDoor.Plain

/- Lists grown one by one in rising order, the least of a length, and which is first. Plain lemmas. No condition. -/
-- over cmpLL impl_OneColourGroup.e
namespace Go.Proofs.YteffcgocnkcpiaaDoor.Plain
open Go.RowKit Go.Proofs.YteffcgocnkcpiaaDoorW.PrintWords Go.Proofs.YteffcgocnkcpiaaDoorW.PrintLast
set_option linter.unusedVariables false
open Q

def enc (o : List Nat) : List Int := o.map fun a : Nat => (a : Int)
theorem enc_length (o : List Nat) : (enc o).length = o.length := by simp [enc]
theorem enc_snoc (o : List Nat) (a : Nat) : enc (o ++ [a]) = enc o ++ [(a : Int)] := by simp [enc]
/-- A list and all that grow from it, the earlier first. -/
def dfs (n : Nat) (ok : List Nat → Nat → Bool) : Nat → List Nat → List (List Nat)
  | 0, o => [o]
  | d + 1, o => o :: (List.range n).flatMap fun a => if ok o a = true then dfs n ok d (o ++ [a]) else []
def grown (n : Nat) (ok : List Nat → Nat → Bool) : List Nat → List Nat → Prop
  | _, [] => True
  | o, a :: v => a < n ∧ ok o a = true ∧ grown n ok (o ++ [a]) v
theorem mem_dfs (n : Nat) (ok : List Nat → Nat → Bool) : ∀ (d : Nat) (o x : List Nat), x ∈ dfs n ok d o ↔ ∃ v, x = o ++ v ∧ v.length ≤ d ∧ grown n ok o v
  | 0, o, x => by
    simp only [dfs, List.mem_singleton]
    constructor
    · rintro rfl
      exact ⟨[], by simp, by simp, trivial⟩
    · rintro ⟨v, rfl, h, _⟩
      rw [List.eq_nil_of_length_eq_zero (Nat.le_zero.1 h), List.append_nil]
  | d + 1, o, x => by
    simp only [dfs, List.mem_cons, List.mem_flatMap, List.mem_range]
    constructor
    · rintro (rfl | ⟨a, ha, hx⟩)
      · exact ⟨[], by simp, by simp, trivial⟩
      · by_cases c : ok o a = true
        · rw [if_pos c] at hx
          obtain ⟨v, rfl, hl, hg⟩ := (mem_dfs n ok d _ _).1 hx
          exact ⟨a :: v, by simp, by simp; omega, ha, c, hg⟩
        · rw [if_neg c] at hx; cases hx
    · rintro ⟨v, rfl, hl, hg⟩
      cases v with
      | nil => left; simp
      | cons a v =>
        right
        refine ⟨a, hg.1, ?_⟩
        rw [if_pos hg.2.1]
        exact (mem_dfs n ok d _ _).2 ⟨v, by simp, by simpa using hl, hg.2.2⟩
end Go.Proofs.YteffcgocnkcpiaaDoor.Plain

/- The groups of a relation as the program goes through them. No condition but at most eight people. -/
-- over impl_groups.f impl_ocg.l
namespace Go.Proofs.YteffcgocnkcpiaaDoor.Plain
open Go.RowKit Go.Proofs.YteffcgocnkcpiaaDoorW.PrintWords Go.Proofs.YteffcgocnkcpiaaDoorW.PrintLast
set_option linter.unusedVariables false
open Q

/-- May a person be put behind a list: it is greater than all in it and joined to all of them. -/
def okF (F : Nat → Nat → Bool) (o : List Nat) (a : Nat) : Bool := o.all fun b => decide (b < a) && F b a
theorem okF_snoc (F : Nat → Nat → Bool) (o : List Nat) (a b : Nat) : okF F (o ++ [a]) b = (okF F o b && (decide (a < b) && F a b)) := by simp [okF, List.all_append]
theorem ofNat_bit (x j : Nat) (hx : x < 2 ^ 16) : (BitVec.ofNat 16 x).getLsbD j = x.testBit j := by
  rw [BitVec.getLsbD_ofNat]
  by_cases h : j < 16
  · simp [h]
  · rw [Nat.testBit_lt_two_pow (Nat.lt_of_lt_of_le hx (Nat.pow_le_pow_right (by omega) (by omega)))]; simp
theorem andNot16 {n a : Nat} (f : Nat → Bool) (hn : n ≤ 16) (ha : a < n) : Go.bits .andNot .u16 ((maskOf f n : Nat) : Int) ((2 ^ a - 1 : Nat) : Int) = ((maskOf (fun b => f b && decide (a ≤ b)) n : Nat) : Int) := by
  have h1 := mask16 (f := f) hn
  have h2 : 2 ^ a - 1 < 2 ^ 16 := by have := Nat.pow_lt_pow_right (a := 2) (by omega) (show a < 16 by omega); omega
  have e : Go.bits .andNot .u16 ((maskOf f n : Nat) : Int) ((2 ^ a - 1 : Nat) : Int) = (((BitVec.ofNat 16 (maskOf f n) &&& ~~~ BitVec.ofNat 16 (2 ^ a - 1)).toNat : Nat) : Int) := by
    simp only [Go.bits, BitVec.ofInt_natCast]
    refine wraps_u16 _ (Int.natCast_nonneg _) ?_
    have := (BitVec.ofNat 16 (maskOf f n) &&& ~~~ BitVec.ofNat 16 (2 ^ a - 1)).isLt
    exact_mod_cast this
  rw [e]
  congr 1
  apply Nat.eq_of_testBit_eq
  intro j
  rw [BitVec.testBit_toNat, BitVec.getLsbD_and, BitVec.getLsbD_not, ofNat_bit _ _ h1, ofNat_bit _ _ h2, Nat.testBit_two_pow_sub_one, maskOf_bit, maskOf_bit]
  by_cases c : j < n
  · rw [show decide (j < 16) = true from decide_eq_true (by omega), show decide (a ≤ j) = !decide (j < a) by by_cases g : j < a <;> simp [g] <;> omega]
    cases decide (j < a) <;> simp
  · simp [c]
theorem nl_eq {n a : Nat} (hn : n ≤ 15) (ha : a < n) (L : Nat → Bool) (F : Nat → Nat → Bool) (hF : F a a = false) : impl_groups.nl ((maskOf L n : Nat) : Int) (tabF n F) (a : Int) = ((maskOf (fun b => L b && (decide (a < b) && F a b)) n : Nat) : Int) := by
  unfold impl_groups.nl
  have h2 : (2 : Nat) ^ a < 2 ^ 15 := Nat.pow_lt_pow_right (by omega) (by omega)
  have h3 : 1 ≤ 2 ^ a := Nat.one_le_two_pow
  rw [tabF_get ha, and16 (mask16 (by omega)) (mask16 (by omega)), mask_and, shl16 (by omega), show ((2 ^ a : Nat) : Int) - 1 = ((2 ^ a - 1 : Nat) : Int) by omega, wraps_u16 _ (by omega) (by omega), andNot16 _ (by omega) ha]
  congr 1
  apply maskOf_congr
  intro b hb
  by_cases c : a < b
  · rw [decide_eq_true c, decide_eq_true (show a ≤ b by omega)]; simp
  · rw [decide_eq_false c]
    by_cases g : a = b
    · subst g; rw [hF]; simp
    · rw [decide_eq_false (show ¬ a ≤ b by omega)]; simp
theorem mask_none {f : Nat → Bool} {n : Nat} (h : ∀ b, b < n → f b = false) : posL f n = [] := by
  rw [posL_congr (g := fun _ => false) h]
  unfold posL posFrom
  simp
theorem cloneG {l : List Int} (h : l.length ≤ 1000) : slices_Clone_int_int.f l = some l := by
  unfold slices_Clone_int_int.f
  rw [if_pos (by omega)]
theorem flat_filter {α : Type} (L g : Nat → Bool) (f : Nat → List α) : ∀ xs : List Nat, (∀ a ∈ xs, L a = g a) → (xs.filter L).flatMap f = xs.flatMap fun a => if g a = true then f a else []
  | [], _ => rfl
  | x :: xs, h => by
    rw [List.filter_cons, List.flatMap_cons, ← flat_filter L g f xs (fun a ha => h a (List.mem_cons_of_mem _ ha)), h x (List.mem_cons_self ..)]
    by_cases c : g x = true
    · rw [if_pos c, if_pos c, List.flatMap_cons]
    · rw [if_neg c, if_neg c]; rfl
theorem g_ev {σ : Type} (e : σ → List Int → σ) {n : Nat} (hn : n ≤ 12) (F : Nat → Nat → Bool) (hF : ∀ a, F a a = false) : ∀ (d : Nat) (o : List Nat) (L : Nat → Bool) (lo : Nat) (s : σ), (∀ b, b < n → L b = okF F o b) → (∀ a, okF F o a = true → lo ≤ a) → n ≤ lo + d → lo ≤ n → o.length ≤ lo →
    Ev (fun k => impl_groups.g e k (tabF n F) (enc o) ((maskOf L n : Nat) : Int) s) (((dfs n (okF F) d o).map enc).foldl e s)
  | 0, o, L, lo, s, hL, hlo, hd, hln, hol => by
    have hp : posL L n = [] := mask_none (fun b hb => by
      rw [hL b hb]
      cases c : okF F o b with
      | false => rfl
      | true => have := hlo b c; omega)
    have hl := listed_ev (n := n) (by omega) L
    rw [hp] at hl
    refine Ev.step (f := fun k => (impl_listed.f k ((maskOf L n : Nat) : Int)).bind fun ls => impl_groups.l e k (tabF n F) (enc o) ((maskOf L n : Nat) : Int) ls 0 (e s (enc o))) (fun k => rfl) ?_
    refine Ev.bind hl ?_
    exact Ev.step (f := fun _ => some (e s (enc o))) (fun k => by simp [impl_groups.l]) (Ev.now _)
  | d + 1, o, L, lo, s, hL, hlo, hd, hln, hol => by
    have hl := listed_ev (n := n) (by omega) L
    have loop : ∀ (xs_ pre : List Nat) (s : σ), pre ++ xs_ = (List.range n).filter L → Ev (fun k => impl_groups.l e k (tabF n F) (enc o) ((maskOf L n : Nat) : Int) (posL L n) ((pre.length : Nat) : Int) s) (((xs_.flatMap fun a => dfs n (okF F) d (o ++ [a])).map enc).foldl e s) := by
      intro xs_
      induction xs_ with
      | nil =>
        intro pre s hpre
        have hlen : (posL L n).length = pre.length := by
          unfold posL posFrom
          rw [List.drop_zero, ← hpre]; simp
        exact Ev.step (f := fun _ => some s) (fun k => by simp only [impl_groups.l]; rw [if_neg (by omega)]) (Ev.now _)
      | cons a xs_ ih =>
        intro pre s hpre
        have hmem : a ∈ (List.range n).filter L := by rw [← hpre]; simp
        obtain ⟨ha, hLa⟩ := List.mem_filter.1 hmem
        rw [List.mem_range] at ha
        have hposl : posL L n = enc (pre ++ a :: xs_) := by
          unfold posL posFrom enc
          rw [List.drop_zero, ← hpre]
        have hlen : (posL L n).length = pre.length + (xs_.length + 1) := by rw [hposl, enc_length]; simp
        have hle := posL_le L n
        have hrd : rd (posL L n) ((pre.length : Nat) : Int) = (a : Int) := by
          rw [rd_at (by omega)]
          simp only [hposl]
          simp [enc]
        have hoka : okF F o a = true := by rw [← hL a ha]; exact hLa
        have hloa := hlo a hoka
        have q1 := g_ev e hn F hF d (o ++ [a]) (fun b => L b && (decide (a < b) && F a b)) (a + 1) s
          (fun b hb => by rw [okF_snoc, hL b hb])
          (fun b hb => by
            rw [okF_snoc] at hb
            simp only [Bool.and_eq_true, decide_eq_true_eq] at hb
            exact hb.2.1)
          (by omega) (by omega) (by rw [List.length_append, List.length_singleton]; omega)
        have q2 := ih (pre ++ [a]) (((dfs n (okF F) d (o ++ [a])).map enc).foldl e s) (by rw [← hpre]; simp)
        rw [List.length_append, List.length_singleton] at q2
        rw [List.flatMap_cons, List.map_append, List.foldl_append]
        refine Ev.step (f := fun k => (impl_groups.g e k (tabF n F) (enc (o ++ [a])) ((maskOf (fun b => L b && (decide (a < b) && F a b)) n : Nat) : Int) s).bind fun s' => impl_groups.l e k (tabF n F) (enc o) ((maskOf L n : Nat) : Int) (posL L n) ((pre.length + 1 : Nat) : Int) s') (fun k => ?_) (Ev.bind q1 q2)
        simp only [impl_groups.l]
        rw [if_pos (by omega), if_pos (by omega), cloneG (by rw [enc_length]; omega), Option.bind_some, if_pos (by rw [enc_length]; omega), hrd, if_pos (by omega), if_pos (by rw [tabF_length]; omega), nl_eq (by omega) ha L F (hF a), ← enc_snoc, wrap_id (by omega) (by omega)]
        rfl
    have q := loop ((List.range n).filter L) [] (e s (enc o)) rfl
    rw [flat_filter L (okF F o) _ _ (fun a ha => hL a (List.mem_range.1 ha))] at q
    refine Ev.step (f := fun k => (impl_listed.f k ((maskOf L n : Nat) : Int)).bind fun ls => impl_groups.l e k (tabF n F) (enc o) ((maskOf L n : Nat) : Int) ls 0 (e s (enc o))) (fun k => rfl) ?_
    exact Ev.bind hl q
theorem all_mask {n : Nat} (hn : n ≤ 15) : IntKind.u16.wrap (shl .u16 1 (n : Int) - 1) = ((maskOf (fun _ => true) n : Nat) : Int) := by
  have h2 : (2 : Nat) ^ n < 2 ^ 16 := Nat.pow_lt_pow_right (by omega) (by omega)
  have h3 : 1 ≤ 2 ^ n := Nat.one_le_two_pow
  rw [shl16 (by omega), show ((2 ^ n : Nat) : Int) - 1 = ((2 ^ n - 1 : Nat) : Int) by omega, wraps_u16 _ (by omega) (by omega)]
  congr 1
  apply Nat.eq_of_testBit_eq
  intro j
  rw [Nat.testBit_two_pow_sub_one, maskOf_bit, Bool.and_true]
theorem groups_ev {σ : Type} (e : σ → List Int → σ) {n : Nat} (hn : n ≤ 12) (F : Nat → Nat → Bool) (hF : ∀ a, F a a = false) (s : σ) : Ev (fun k => impl_groups.f e k (tabF n F) s) (((dfs n (okF F) n []).map enc).foldl e s) := by
  have q := g_ev e hn F hF n [] (fun _ => true) 0 s (fun b _ => rfl) (fun _ _ => Nat.zero_le _) (by omega) (Nat.zero_le _) (Nat.le_refl _)
  unfold impl_groups.f
  rw [tabF_length, all_mask (by omega)]
  exact q
end Go.Proofs.YteffcgocnkcpiaaDoor.Plain

/- The lists of people of one colour, on both sides. No condition but a painting. -/
-- over spec_ptGroup.f impl_ocg.l
namespace Go.Proofs.YteffcgocnkcpiaaDoor.Plain
open Go.RowKit Go.Proofs.YteffcgocnkcpiaaDoorW.PrintWords Go.Proofs.YteffcgocnkcpiaaDoorW.PrintLast
set_option linter.unusedVariables false
open Q

def colG (n : Nat) (l : List Int) (q : Int) : Nat → Nat → Bool := fun a b => colF n l q a b && decide (a ≠ b)
theorem seen_all (n : Nat) (l : List Int) (q : Int) : tabF n (seenG (colF n l q) n 0) = tabF n (colG n l q) := by
  apply tabF_congr
  intro a b ha hb
  unfold seenG colG
  congr 1
  apply decide_eq_decide.2
  omega
/-- All lists that the program goes through. -/
def allC (n m : Nat) (l : List Int) : List (List Int) := (List.range m).flatMap fun q : Nat => (dfs n (okF (colG n l (q : Int))) n []).map enc
theorem ocg_ev {σ : Type} (e : σ → List Int → σ) {n m : Nat} {l : List Int} (hp : painted (n : Int) (m : Int) l = true) (s : σ) : Ev (fun k => impl_ocg.l e k (n : Int) (m : Int) l 0 s) ((allC n m l).foldl (impl_ocg.e e) s) := by
  obtain ⟨_, h8, _, h3, _⟩ := painted_of hp
  have q := fun s => ev_up (n := m) (loop := fun k i => impl_ocg.l e k (n : Int) (m : Int) l (i : Int) (((List.range i).flatMap fun q : Nat => (dfs n (okF (colG n l (q : Int))) n []).map enc).foldl (impl_ocg.e e) s)) (r := fun _ => (allC n m l).foldl (impl_ocg.e e) s)
    (Ev.step (f := fun _ => some ((allC n m l).foldl (impl_ocg.e e) s)) (fun k => by simp only [impl_ocg.l]; rw [if_neg (by omega)]; rfl) (Ev.now _))
    (fun i hi ih => by
      have h1 := inColour_ev hp (i : Int)
      rw [seen_all] at h1
      have h2 := groups_ev (impl_ocg.e e) (n := n) (by omega) (colG n l (i : Int)) (fun a => by simp [colG]) (((List.range i).flatMap fun q : Nat => (dfs n (okF (colG n l (q : Int))) n []).map enc).foldl (impl_ocg.e e) s)
      rw [List.range_succ, List.flatMap_append, List.foldl_append, List.flatMap_singleton] at ih
      refine Ev.step (f := fun k => (impl_Painting_inColour.f k (n : Int) (m : Int) l (i : Int)).bind fun t => (impl_groups.f (impl_ocg.e e) k t (((List.range i).flatMap fun q : Nat => (dfs n (okF (colG n l (q : Int))) n []).map enc).foldl (impl_ocg.e e) s)).bind fun s' => impl_ocg.l e k (n : Int) (m : Int) l ((i + 1 : Nat) : Int) s') (fun k => ?_) (Ev.bind h1 (Ev.bind h2 ih))
      simp only [impl_ocg.l]
      rw [if_pos (by omega), succ_cast hi (by omega)]) 0 (Nat.zero_le _)
  exact q s

/-- The reference's test: may a person be put behind a list. -/
def okS (col : Nat → Nat → Int) : List Nat → Nat → Bool
  | [], _ => true
  | [p], a => decide (p < a)
  | p :: p' :: u, a => (p :: p' :: u).all fun b => decide (b < a) && decide (col b a = col p p')
def refc (col : Nat → Nat → Int) : List Nat → Nat → Int
  | [], _ => 0
  | [p], a => col p a
  | p :: p' :: _, _ => col p p'
theorem okS_lt {col : Nat → Nat → Int} : ∀ {o : List Nat} {a : Nat}, okS col o a = true → ∀ b ∈ o, b < a
  | [], _, _, b, hb => by cases hb
  | [p], a, h, b, hb => by
    obtain rfl := List.mem_singleton.1 hb
    exact of_decide_eq_true h
  | p :: p' :: u, a, h, b, hb => by
    have h : ((p :: p' :: u).all fun b => decide (b < a) && decide (col b a = col p p')) = true := h
    have := List.all_eq_true.1 h b hb
    simp only [Bool.and_eq_true, decide_eq_true_eq] at this
    exact this.1
theorem okS_eq {col : Nat → Nat → Int} : ∀ {o : List Nat} {a : Nat}, (∀ b ∈ o, b < a) → okS col o a = o.all fun b => decide (col b a = refc col o a)
  | [], _, _ => rfl
  | [p], a, h => by
    have := h p (by simp)
    simp [okS, refc, this]
  | p :: p' :: u, a, h => by
    show ((p :: p' :: u).all fun b => decide (b < a) && decide (col b a = col p p')) = (p :: p' :: u).all fun b => decide (col b a = col p p')
    rw [Bool.eq_iff_iff, List.all_eq_true, List.all_eq_true]
    constructor
    · intro g b hb
      have := g b hb
      simp only [Bool.and_eq_true] at this
      exact this.2
    · intro g b hb
      rw [g b hb, decide_eq_true (h b hb)]; rfl
def tellG : Option (List Nat) → List Int × Bool
  | none => ([], false)
  | some x => (enc x, true)
def colN (n : Nat) (l : List Int) (a b : Nat) : Int := rd l (placeOf (n : Int) (a : Int) (b : Int))
theorem l1OwnG {l : List Int} (h : l.length ≤ 1000) : spec_l1Own.f l = some l := by
  unfold spec_l1Own.f
  simp [show l.length < 17592186044416 by omega]
theorem rd_enc {o : List Nat} {i : Nat} (h : i < o.length) : rd (enc o) (i : Int) = ((o[i] : Nat) : Int) := by
  rw [rd_at (by rw [enc_length]; exact h)]
  simp [enc]
theorem ref_ev {n : Nat} {c : Int} {l : List Int} (hp : painted (n : Int) c l = true) : ∀ {o : List Nat} {a : Nat}, o ≠ [] → o.Pairwise (fun x y => x < y) → (∀ b ∈ o, b < a) → a < n → ((spec_ptSecond.f (enc o) (a : Int)).bind fun t140 => spec_ptOf.f (n : Int) c l (rd (enc o) 0) t140) = some (refc (colN n l) o a)
  | [], _, h, _, _, _ => absurd rfl h
  | [p], a, _, _, hb, ha => by
    have hpa := hb p (by simp)
    unfold spec_ptSecond.f
    rw [if_neg (by simp [enc]), Option.bind_some, show rd (enc [p]) 0 = (p : Int) from rd_enc (o := [p]) (i := 0) (by simp), ptOf_eq (two_in hp (by omega) ha (by omega))]
    rfl
  | p :: p' :: u, a, _, hs, hb, ha => by
    have h1 := hb p (by simp)
    have h2 := hb p' (by simp)
    have h3 : p < p' := (List.pairwise_cons.1 hs).1 p' (by simp)
    have hl : (enc (p :: p' :: u)).length = u.length + 2 := by rw [enc_length]; simp
    unfold spec_ptSecond.f
    rw [if_pos (by omega), if_pos (by omega), Option.bind_some, show rd (enc (p :: p' :: u)) 0 = (p : Int) from rd_enc (o := p :: p' :: u) (i := 0) (by simp), show rd (enc (p :: p' :: u)) 1 = (p' : Int) from rd_enc (o := p :: p' :: u) (i := 1) (by simp), ptOf_eq (two_in hp (by omega) (by omega) (by omega))]
    rfl
theorem pt_ev {n : Nat} {c : Int} {l : List Int} (hp : painted (n : Int) c l = true) (z : Int) : ∀ (d : Nat) (o : List Nat) (lo : Nat), ((o = [] ∧ lo = 0) ∨ ∃ u p, o = u ++ [p] ∧ lo = p + 1) → (∀ b ∈ o, b < lo) → o.Pairwise (fun x y => x < y) → n ≤ lo + d → lo ≤ n → o.length ≤ lo →
    Ev (fun k => spec_ptGroup.f k (n : Int) c l (enc o) z) (tellG ((dfs n (okS (colN n l)) d o).filter fun x => decide ((x.length : Int) = z)).head?) := by
  have h8 := (painted_of hp).2.1
  intro d
  induction d with
  | zero =>
    intro o lo hlo hb hs hd hln hol
    by_cases hz : (o.length : Int) = z
    · simp only [dfs, List.filter_cons, decide_eq_true hz, if_true, List.head?_cons]
      exact Ev.step (f := fun _ => some (enc o, true)) (fun k => by simp only [spec_ptGroup.f]; rw [if_pos (by rw [enc_length]; exact hz)]) (Ev.now _)
    · simp only [dfs, List.filter_cons, decide_eq_false hz, Bool.false_eq_true, if_false, List.filter_nil, List.head?_nil]
      refine Ev.step (f := fun k => spec_ptGroup.j0 k (enc o) z (lo : Int) (n : Int) c l) (fun k => ?_) ?_
      · simp only [spec_ptGroup.f]
        rw [if_neg (by rw [enc_length]; exact hz)]
        rcases hlo with ⟨rfl, rfl⟩ | ⟨u, p, rfl, rfl⟩
        · rw [if_neg (by simp [enc])]; rfl
        · have hl : (enc (u ++ [p])).length = u.length + 1 := by rw [enc_length]; simp
          have hu : u.length ≤ p := by simpa using hol
          rw [if_pos (by omega), show wrap64 (((enc (u ++ [p])).length : Int) - 1) = ((u.length : Nat) : Int) by rw [wrap_id (by omega) (by omega)]; omega, if_pos (by omega), if_pos (by omega), rd_enc (by simp), List.getElem_append_right (by omega)]
          simp only [Nat.sub_self, List.getElem_cons_zero]
          rw [succ_cast (n := n) (by omega) (by omega)]
      · refine Ev.step (f := fun k => spec_ptGroup.l0 k (enc o) z (lo : Int) (n : Int) c l) (fun k => rfl) ?_
        exact Ev.step (f := fun _ => some (([] : List Int), false)) (fun k => by simp only [spec_ptGroup.l0]; rw [if_neg (by omega)]) (Ev.now _)
  | succ d ih =>
    intro o lo hlo hb hs hd hln hol
    by_cases hz : (o.length : Int) = z
    · simp only [dfs, List.filter_cons, decide_eq_true hz, if_true, List.head?_cons]
      exact Ev.step (f := fun _ => some (enc o, true)) (fun k => by simp only [spec_ptGroup.f]; rw [if_pos (by rw [enc_length]; exact hz)]) (Ev.now _)
    · simp only [dfs, List.filter_cons, decide_eq_false hz, Bool.false_eq_true, if_false]
      have hsplit : ((List.range n).flatMap fun a => if okS (colN n l) o a = true then dfs n (okS (colN n l)) d (o ++ [a]) else []) = ((List.range n).drop lo).flatMap fun a => if okS (colN n l) o a = true then dfs n (okS (colN n l)) d (o ++ [a]) else [] := by
        conv => lhs; rw [← List.take_append_drop lo (List.range n), List.flatMap_append]
        rw [List.flatMap_eq_nil_iff.2, List.nil_append]
        intro a ha
        have hal : a < lo := by
          obtain ⟨i, hi, rfl⟩ := List.mem_iff_getElem.1 ha
          rw [List.length_take] at hi
          rw [List.getElem_take, List.getElem_range]
          omega
        have hno : ¬ okS (colN n l) o a = true := fun h => by
          rcases hlo with ⟨rfl, rfl⟩ | ⟨u, p, rfl, rfl⟩
          · omega
          · have := okS_lt h p (by simp); omega
        rw [if_neg hno]
      rw [hsplit]
      have loop : ∀ t a, n - a = t → lo ≤ a → a ≤ n → Ev (fun k => spec_ptGroup.l0 k (enc o) z (a : Int) (n : Int) c l) (tellG ((((List.range n).drop a).flatMap fun a => if okS (colN n l) o a = true then dfs n (okS (colN n l)) d (o ++ [a]) else []).filter fun x => decide ((x.length : Int) = z)).head?) := by
        intro t
        induction t with
        | zero =>
          intro a ht ha han
          rw [List.drop_of_length_le (by simp; omega)]
          exact Ev.step (f := fun _ => some (([] : List Int), false)) (fun k => by simp only [spec_ptGroup.l0]; rw [if_neg (by omega)]) (Ev.now _)
        | succ t iht =>
          intro a ht ha han
          have han' : a < n := by omega
          have hnext := iht (a + 1) (by omega) (by omega) (by omega)
          have hba : ∀ b ∈ o, b < a := fun b h => by have := hb b h; omega
          rw [List.drop_eq_getElem_cons (by simpa using han'), List.getElem_range, List.flatMap_cons, List.filter_append, List.head?_append]
          have hgo : okS (colN n l) o a = true → Ev (fun k => (spec_l1Own.f (enc o)).bind fun t142 => ((some (([(a : Int)] : List Int) : List Int)).bind fun y145 => (if t142.length + y145.length < 17592186044416 then ((spec_ptGroup.f k (n : Int) c l (t142 ++ y145) z).bind fun bt151 => (if bt151.2 = true then (some (bt151.1, true)) else (spec_ptGroup.l0 k (enc o) z (wrap64 ((a : Int) + 1)) (n : Int) c l))) else (none)))) (tellG ((List.filter (fun x => decide ((x.length : Int) = z)) (if okS (colN n l) o a = true then dfs n (okS (colN n l)) d (o ++ [a]) else [])).head?.or (List.filter (fun x => decide ((x.length : Int) = z)) (((List.range n).drop (a + 1)).flatMap fun a => if okS (colN n l) o a = true then dfs n (okS (colN n l)) d (o ++ [a]) else [])).head?)) := by
            intro hok
            rw [if_pos hok]
            have q := ih (o ++ [a]) (a + 1) (Or.inr ⟨o, a, rfl, rfl⟩) (fun b h => by
              rcases List.mem_append.1 h with h | h
              · have := hba b h; omega
              · obtain rfl := List.mem_singleton.1 h; omega) (List.pairwise_append.2 ⟨hs, by simp, fun x hx y hy => by
                obtain rfl := List.mem_singleton.1 hy
                exact hba x hx⟩) (by omega) (by omega) (by rw [List.length_append, List.length_singleton]; omega)
            rw [enc_snoc] at q
            refine ev_bind0 (l1OwnG (by rw [enc_length]; omega)) ?_
            refine ev_bind0 rfl ?_
            refine ev_if (fun _ => ?_) (fun h => absurd (show (enc o).length + [(a : Int)].length < 17592186044416 by rw [enc_length, List.length_singleton]; omega) h)
            refine Ev.bind q ?_
            generalize (List.filter (fun x => decide ((x.length : Int) = z)) (dfs n (okS (colN n l)) d (o ++ [a]))).head? = h1
            cases h1 with
            | some x => exact ev_if (fun _ => Ev.now _) (fun h => absurd rfl h)
            | none =>
              refine ev_if (fun h => by simp [tellG] at h) (fun _ => ?_)
              rw [Option.none_or, succ_cast han' (by omega)]
              exact hnext
          have hskip : okS (colN n l) o a = false → Ev (fun k => spec_ptGroup.l0 k (enc o) z (wrap64 ((a : Int) + 1)) (n : Int) c l) (tellG ((List.filter (fun x => decide ((x.length : Int) = z)) (if okS (colN n l) o a = true then dfs n (okS (colN n l)) d (o ++ [a]) else [])).head?.or (List.filter (fun x => decide ((x.length : Int) = z)) (((List.range n).drop (a + 1)).flatMap fun a => if okS (colN n l) o a = true then dfs n (okS (colN n l)) d (o ++ [a]) else [])).head?)) := by
            intro hok
            rw [if_neg (by rw [hok]; simp), succ_cast han' (by omega)]
            exact hnext
          generalize (tellG ((List.filter (fun x => decide ((x.length : Int) = z)) (if okS (colN n l) o a = true then dfs n (okS (colN n l)) d (o ++ [a]) else [])).head?.or (List.filter (fun x => decide ((x.length : Int) = z)) (((List.range n).drop (a + 1)).flatMap fun a => if okS (colN n l) o a = true then dfs n (okS (colN n l)) d (o ++ [a]) else [])).head?)) = R at hgo hskip
          rw [okS_eq hba] at hgo hskip
          have hel : ((enc o).length : Int) = (o.length : Int) := by rw [enc_length]
          have inner : ∀ y j, o.length - j = y → j ≤ o.length → ∀ g : Bool, ((g && (o.drop j).all fun b => decide (colN n l b a = refc (colN n l) o a)) = o.all fun b => decide (colN n l b a = refc (colN n l) o a)) → Ev (fun k => spec_ptGroup.l1 k (enc o) z (a : Int) g (enc o) ((enc o).length : Int) (j : Int) (n : Int) c l) R := by
            intro y
            induction y with
            | zero =>
              intro j hj hjl g hg
              obtain rfl : j = o.length := by omega
              rw [List.drop_length, List.all_nil, Bool.and_true] at hg
              refine Ev.step (f := fun k => if g = true then ((spec_l1Own.f (enc o)).bind fun t142 => ((some (([(a : Int)] : List Int) : List Int)).bind fun y145 => (if t142.length + y145.length < 17592186044416 then ((spec_ptGroup.f k (n : Int) c l (t142 ++ y145) z).bind fun bt151 => (if bt151.2 = true then (some (bt151.1, true)) else (spec_ptGroup.l0 k (enc o) z (wrap64 ((a : Int) + 1)) (n : Int) c l))) else (none)))) else (spec_ptGroup.l0 k (enc o) z (wrap64 ((a : Int) + 1)) (n : Int) c l)) (fun k => ?_) ?_
              · simp only [spec_ptGroup.l1]
                rw [if_neg (by omega)]
              · exact ev_if (fun h => hgo (hg ▸ h)) (fun h => hskip (by rw [← hg]; simpa using h))
            | succ y ihy =>
              intro j hj hjl g hg
              have hj' : j < o.length := by omega
              have hne : o ≠ [] := fun h => by rw [h] at hj'; cases hj'
              have hrf := ref_ev hp hne hs hba han'
              have hob := hba o[j] (List.getElem_mem hj')
              have hof := ptOf_eq (two_in hp (show o[j] < n by omega) han' (by omega))
              rw [List.drop_eq_getElem_cons hj', List.all_cons] at hg
              refine Ev.step (f := fun k => if g = true then spec_ptGroup.l1 k (enc o) z (a : Int) (colN n l o[j] a == refc (colN n l) o a) (enc o) ((enc o).length : Int) ((j + 1 : Nat) : Int) (n : Int) c l else spec_ptGroup.l1 k (enc o) z (a : Int) false (enc o) ((enc o).length : Int) ((j + 1 : Nat) : Int) (n : Int) c l) (fun k => ?_) ?_
              · simp only [spec_ptGroup.l1]
                rw [if_pos (by omega), if_pos (by omega), if_pos (by omega), succ_cast hj' (by omega)]
                cases g with
                | false => rfl
                | true =>
                  rw [if_pos rfl, if_pos rfl, rd_enc hj', hof, Option.bind_some, if_pos (by omega)]
                  rw [show ∀ F : Int → Option (List Int × Bool), ((spec_ptSecond.f (enc o) (a : Int)).bind fun t140 => (spec_ptOf.f (n : Int) c l (rd (enc o) 0) t140).bind F) = ((spec_ptSecond.f (enc o) (a : Int)).bind fun t140 => spec_ptOf.f (n : Int) c l (rd (enc o) 0) t140).bind F from fun F => by rw [Option.bind_assoc], hrf, Option.bind_some]
                  rfl
              · cases g with
                | true =>
                  refine ev_if (fun _ => ?_) (fun h => absurd rfl h)
                  refine ihy (j + 1) (by omega) (by omega) _ ?_
                  rw [← hg, Bool.true_and]
                  congr 1
                | false =>
                  refine ev_if (fun h => by cases h) (fun _ => ?_)
                  refine ihy (j + 1) (by omega) (by omega) _ ?_
                  rw [← hg]; simp
          refine Ev.step (f := fun k => spec_ptGroup.l1 k (enc o) z (a : Int) true (enc o) ((enc o).length : Int) ((0 : Nat) : Int) (n : Int) c l) (fun k => ?_) (inner o.length 0 (by omega) (by omega) true (by rw [List.drop_zero, Bool.true_and]))
          simp only [spec_ptGroup.l0]
          rw [if_pos (by omega)]
          rfl
      refine Ev.step (f := fun k => spec_ptGroup.j0 k (enc o) z (lo : Int) (n : Int) c l) (fun k => ?_) ?_
      · simp only [spec_ptGroup.f]
        rw [if_neg (by rw [enc_length]; exact hz)]
        rcases hlo with ⟨rfl, rfl⟩ | ⟨u, p, rfl, rfl⟩
        · rw [if_neg (by simp [enc])]; rfl
        · have hl : (enc (u ++ [p])).length = u.length + 1 := by rw [enc_length]; simp
          have hu : u.length ≤ p := by simpa using hol
          rw [if_pos (by omega), show wrap64 (((enc (u ++ [p])).length : Int) - 1) = ((u.length : Nat) : Int) by rw [wrap_id (by omega) (by omega)]; omega, if_pos (by omega), if_pos (by omega), rd_enc (by simp), List.getElem_append_right (by omega)]
          simp only [Nat.sub_self, List.getElem_cons_zero]
          rw [succ_cast (n := n) (by omega) (by omega)]
      · exact Ev.step (f := fun k => spec_ptGroup.l0 k (enc o) z (lo : Int) (n : Int) c l) (fun k => rfl) (loop (n - lo) lo rfl (Nat.le_refl _) hln)
theorem ptGroup_ev {n : Nat} {c : Int} {l : List Int} (hp : painted (n : Int) c l = true) (z : Int) : Ev (fun k => spec_ptGroup.f k (n : Int) c l [] z) (tellG ((dfs n (okS (colN n l)) n []).filter fun x => decide ((x.length : Int) = z)).head?) :=
  pt_ev hp z n [] 0 (Or.inl ⟨rfl, rfl⟩) (fun b hb => by cases hb) List.Pairwise.nil (by omega) (Nat.zero_le _) (Nat.le_refl _)
end Go.Proofs.YteffcgocnkcpiaaDoor.Plain

/- The lists of people of one colour: both sides go through the same lists of two or more. No condition but a painting. -/
namespace Go.Proofs.YteffcgocnkcpiaaDoor.Plain
open Go.RowKit Go.Proofs.YteffcgocnkcpiaaDoorW.PrintWords Go.Proofs.YteffcgocnkcpiaaDoorW.PrintLast
set_option linter.unusedVariables false
open Q

theorem grown_same {n : Nat} {l : List Int} {q : Int} {p p' : Nat} (hq : colN n l p p' = q) : ∀ (v u : List Nat), grown n (okS (colN n l)) (p :: p' :: u) v ↔ grown n (okF (colG n l q)) (p :: p' :: u) v
  | [], u => Iff.rfl
  | a :: v, u => by
    have e : okS (colN n l) (p :: p' :: u) a = okF (colG n l q) (p :: p' :: u) a := by
      show ((p :: p' :: u).all fun b => decide (b < a) && decide (colN n l b a = colN n l p p')) = (p :: p' :: u).all fun b => decide (b < a) && (decide (colN n l b a = q) && decide (b ≠ a))
      rw [hq]
      congr 1
      funext b
      by_cases h : b < a
      · rw [decide_eq_true h, decide_eq_true (show b ≠ a by omega), Bool.and_true]
      · rw [decide_eq_false h]; rfl
    show (a < n ∧ okS (colN n l) (p :: p' :: u) a = true ∧ grown n (okS (colN n l)) (p :: p' :: (u ++ [a])) v) ↔ (a < n ∧ okF (colG n l q) (p :: p' :: u) a = true ∧ grown n (okF (colG n l q)) (p :: p' :: (u ++ [a])) v)
    rw [e, grown_same hq v (u ++ [a])]
theorem grown_two {n : Nat} {l : List Int} {p p' : Nat} {u : List Nat} : grown n (okS (colN n l)) [] (p :: p' :: u) ↔ grown n (okF (colG n l (colN n l p p'))) [] (p :: p' :: u) := by
  show (p < n ∧ true = true ∧ p' < n ∧ decide (p < p') = true ∧ grown n (okS (colN n l)) [p, p'] u) ↔ (p < n ∧ true = true ∧ p' < n ∧ okF (colG n l (colN n l p p')) [p] p' = true ∧ grown n (okF (colG n l (colN n l p p'))) [p, p'] u)
  have e : okF (colG n l (colN n l p p')) [p] p' = decide (p < p') := by
    unfold okF colG colF colN
    by_cases h : p < p'
    · simp [h]; omega
    · simp [h]
  rw [e, grown_same rfl]
theorem grown_colour {n : Nat} {l : List Int} {q : Int} {p p' : Nat} {u : List Nat} (h : grown n (okF (colG n l q)) [] (p :: p' :: u)) : colN n l p p' = q := by
  have h2 : okF (colG n l q) [p] p' = true := h.2.2.2.1
  unfold okF colG colF at h2
  simp only [List.all_cons, List.all_nil, Bool.and_true, Bool.and_eq_true, decide_eq_true_eq] at h2
  exact h2.2.1
theorem colour_in {n m : Nat} {l : List Int} (hp : painted (n : Int) (m : Int) l = true) {p p' : Nat} (h1 : p < n) (h2 : p' < n) (h3 : p ≠ p') : ∃ q : Nat, q < m ∧ colN n l p p' = (q : Int) := by
  obtain ⟨_, _, h4, h5⟩ := place_two (two_in hp h1 h2 h3)
  obtain ⟨_, _, _, _, _, hx⟩ := painted_of hp
  have hc : ∃ i : Nat, placeOf (n : Int) (p : Int) (p' : Int) = (i : Int) := ⟨(placeOf (n : Int) (p : Int) (p' : Int)).toNat, by omega⟩
  obtain ⟨i, hi⟩ := hc
  have hil : i < l.length := by omega
  have hr : colN n l p p' = l[i] := by unfold colN; rw [hi, rd_at hil]
  have := hx l[i] (List.getElem_mem hil)
  exact ⟨l[i].toNat, by omega, by rw [hr]; omega⟩
theorem same_set {n m : Nat} {l : List Int} (hp : painted (n : Int) (m : Int) l = true) {x : List Int} (h2 : 2 ≤ x.length) : x ∈ allC n m l ↔ ∃ y ∈ dfs n (okS (colN n l)) n [], x = enc y := by
  unfold allC
  simp only [List.mem_flatMap, List.mem_range, List.mem_map]
  constructor
  · rintro ⟨q, hq, y, hy, rfl⟩
    obtain ⟨v, hv, hl, hg⟩ := (mem_dfs _ _ _ _ _).1 hy
    replace hv : v = y := by simpa using hv.symm
    subst hv
    rw [enc_length] at h2
    refine ⟨v, (mem_dfs _ _ _ _ _).2 ⟨v, rfl, hl, ?_⟩, rfl⟩
    obtain ⟨p, p', u, rfl⟩ : ∃ p p' u, v = p :: p' :: u := by
      match v, h2 with
      | p :: p' :: u, _ => exact ⟨p, p', u, rfl⟩
    have hc := grown_colour hg
    rw [grown_two, hc]
    exact hg
  · rintro ⟨y, hy, rfl⟩
    obtain ⟨v, hv, hl, hg⟩ := (mem_dfs _ _ _ _ _).1 hy
    replace hv : v = y := by simpa using hv.symm
    subst hv
    rw [enc_length] at h2
    obtain ⟨p, p', u, rfl⟩ : ∃ p p' u, v = p :: p' :: u := by
      match v, h2 with
      | p :: p' :: u, _ => exact ⟨p, p', u, rfl⟩
    have hlt : p < p' := of_decide_eq_true hg.2.2.2.1
    obtain ⟨q, hq, e⟩ := colour_in hp hg.1 hg.2.2.1 (show p ≠ p' by omega)
    rw [grown_two, e] at hg
    exact ⟨q, hq, p :: p' :: u, (mem_dfs _ _ _ _ _).2 ⟨_, rfl, hl, hg⟩, rfl⟩
/-- A list's beginning was gone through as well. -/
theorem grown_take {n : Nat} {ok : List Nat → Nat → Bool} : ∀ (v o : List Nat) (i : Nat), grown n ok o v → grown n ok o (v.take i)
  | [], _, _, _ => by simp [grown]
  | a :: v, o, 0, _ => trivial
  | a :: v, o, i + 1, h => ⟨h.1, h.2.1, grown_take v (o ++ [a]) i h.2.2⟩
end Go.Proofs.YteffcgocnkcpiaaDoor.Plain
/- The program's MostOneColour returns what the reference's returns, for all arguments. No condition. -/
namespace Go.Proofs.YteffcgocnkcpiaaDoor.Pure
open Go.RowKit Go.Proofs.YteffcgocnkcpiaaDoorW.PrintWords Go.Proofs.YteffcgocnkcpiaaDoorW.PrintLast
set_option linter.unusedVariables false
open Q Plain

theorem most_fold : ∀ (L : List (List Int)) (s : Int), s ≤ L.foldl (impl_ocg.e impl_MostOneColour.e) s ∧ (∀ x ∈ L, 1 < x.length → (x.length : Int) ≤ L.foldl (impl_ocg.e impl_MostOneColour.e) s) ∧ (L.foldl (impl_ocg.e impl_MostOneColour.e) s = s ∨ ∃ x ∈ L, 1 < x.length ∧ (x.length : Int) = L.foldl (impl_ocg.e impl_MostOneColour.e) s)
  | [], s => ⟨Int.le_refl _, fun x hx => (by cases hx), Or.inl rfl⟩
  | x :: L, s => by
    rw [List.foldl_cons]
    obtain ⟨h1, h2, h3⟩ := most_fold L (impl_ocg.e impl_MostOneColour.e s x)
    generalize hr : L.foldl (impl_ocg.e impl_MostOneColour.e) (impl_ocg.e impl_MostOneColour.e s x) = r at h1 h2 h3 ⊢
    have he : (1 < x.length ∧ s < (x.length : Int) ∧ impl_ocg.e impl_MostOneColour.e s x = (x.length : Int)) ∨ (impl_ocg.e impl_MostOneColour.e s x = s ∧ (1 < x.length → (x.length : Int) ≤ s)) := by
      unfold impl_ocg.e impl_MostOneColour.e
      by_cases c : 1 < x.length
      · rw [if_pos c]
        by_cases g : s < (x.length : Int)
        · rw [if_pos g]; exact Or.inl ⟨c, g, rfl⟩
        · rw [if_neg g]; exact Or.inr ⟨rfl, fun _ => by omega⟩
      · rw [if_neg c]; exact Or.inr ⟨rfl, fun h => absurd h c⟩
    generalize impl_ocg.e impl_MostOneColour.e s x = s1 at h1 h3 he
    refine ⟨?_, fun y hy hl => ?_, ?_⟩
    · rcases he with he | he <;> omega
    · rcases List.mem_cons.1 hy with rfl | hy
      · rcases he with he | he
        · omega
        · have := he.2 hl; omega
      · exact h2 y hy hl
    · rcases h3 with h3 | ⟨y, hy, hl, e⟩
      · rcases he with he | he
        · exact Or.inr ⟨x, List.mem_cons_self .., he.1, by omega⟩
        · exact Or.inl (by omega)
      · exact Or.inr ⟨y, List.mem_cons_of_mem _ hy, hl, e⟩
/-- What both sides tell. -/
def tell (n c : Int) (l : List Int) : Int × Bool := if painted n c l = true ∧ 2 ≤ n then ((allC n.toNat c.toNat l).foldl (impl_ocg.e impl_MostOneColour.e) 0, true) else (0, false)
theorem impl_ev (n c : Int) (l : List Int) (h : l.length ≤ 9223372036854775807) : Ev (fun k => impl_MostOneColour.f k n c l) (tell n c l) := by
  unfold impl_MostOneColour.f
  refine Ev.bind (isPainting_ev n c l h) ?_
  refine ev_if (fun b => ?_) (fun b => ?_)
  · refine ev_if (fun b2 => ?_) (fun b2 => ?_)
    · unfold tell
      rw [if_neg (by omega)]
      exact Ev.now _
    · obtain ⟨h0, h8, h1, h3, _⟩ := painted_of b
      obtain ⟨a, rfl⟩ := Int.eq_ofNat_of_zero_le h0
      obtain ⟨m, rfl⟩ := Int.eq_ofNat_of_zero_le (show 0 ≤ c by omega)
      unfold tell
      rw [if_pos ⟨b, by omega⟩, Int.toNat_natCast, Int.toNat_natCast]
      exact Ev.bind (ocg_ev impl_MostOneColour.e b 0) (Ev.now _)
  · unfold tell
    rw [if_neg (fun q => b q.1)]
    exact Ev.now _
theorem spec_ev (n c : Int) (l : List Int) (h : l.length ≤ 9223372036854775807) : Ev (fun k => spec_MostOneColour.f k n c l) (tell n c l) := by
  have out : ∀ x : Bool, x = true → ¬ (painted n c l = true ∧ 2 ≤ n) → Ev (fun k => spec_MostOneColour.j0 k x n c l) (tell n c l) := by
    intro x hx hno
    unfold tell
    rw [if_neg hno]
    exact Ev.step (f := fun _ => some (0, false)) (fun k => by simp only [spec_MostOneColour.j0]; rw [if_pos hx]) (Ev.now _)
  unfold spec_MostOneColour.f
  refine Ev.bind (ptGood_ev n c l h) ?_
  refine ev_if (fun b => ?_) (fun b => out _ rfl (fun q => b q.1))
  by_cases b2 : n < 2
  · exact out _ (decide_eq_true b2) (fun q => by omega)
  · rw [decide_eq_false b2]
    obtain ⟨h0, h8, h1, h3, _⟩ := painted_of b
    obtain ⟨a, rfl⟩ := Int.eq_ofNat_of_zero_le h0
    obtain ⟨m, rfl⟩ := Int.eq_ofNat_of_zero_le (show 0 ≤ c by omega)
    unfold tell
    rw [if_pos ⟨b, by omega⟩, Int.toNat_natCast, Int.toNat_natCast]
    obtain ⟨f1, f2, f3⟩ := most_fold (allC a m l) 0
    generalize (allC a m l).foldl (impl_ocg.e impl_MostOneColour.e) 0 = M at f1 f2 f3
    have hP : ∀ z : Nat, 2 ≤ z → ((∃ x ∈ allC a m l, x.length = z) ↔ ∃ y ∈ dfs a (okS (colN a l)) a [], y.length = z) := by
      intro z hz
      constructor
      · rintro ⟨x, hx, hl⟩
        obtain ⟨y, hy, rfl⟩ := (same_set b (by omega)).1 hx
        exact ⟨y, hy, by rw [enc_length] at hl; exact hl⟩
      · rintro ⟨y, hy, hl⟩
        exact ⟨enc y, (same_set b (by rw [enc_length]; omega)).2 ⟨y, hy, rfl⟩, by rw [enc_length]; exact hl⟩
    have h01 : ∃ y ∈ dfs a (okS (colN a l)) a [], y.length = 2 := ⟨[0, 1], (mem_dfs _ _ _ _ _).2 ⟨[0, 1], rfl, by show 2 ≤ a; omega, by omega, rfl, by omega, rfl, trivial⟩, rfl⟩
    obtain ⟨x2, hx2, hl2⟩ := (hP 2 (by omega)).2 h01
    have hM2 : 2 ≤ M := by have := f2 x2 hx2 (by omega); omega
    obtain ⟨xM, hxM, _, hlM⟩ : ∃ x ∈ allC a m l, 1 < x.length ∧ (x.length : Int) = M := by
      rcases f3 with f3 | f3
      · omega
      · exact f3
    obtain ⟨yM, hyM, hyl⟩ := (hP xM.length (by omega)).1 ⟨xM, hxM, rfl⟩
    obtain ⟨v, hv, hvl, hvg⟩ := (mem_dfs _ _ _ _ _).1 hyM
    replace hv : v = yM := by simpa using hv.symm
    subst hv
    have hMn : M ≤ (a : Int) := by omega
    have hyes : ∀ z : Nat, 2 ≤ z → (z : Int) ≤ M → ∃ y ∈ dfs a (okS (colN a l)) a [], y.length = z := by
      intro z hz hzM
      exact ⟨v.take z, (mem_dfs _ _ _ _ _).2 ⟨v.take z, rfl, by rw [List.length_take]; omega, grown_take _ _ _ hvg⟩, by rw [List.length_take]; omega⟩
    have hno : ∀ z : Nat, 2 ≤ z → M < (z : Int) → ¬ ∃ y ∈ dfs a (okS (colN a l)) a [], y.length = z := by
      intro z hz hzM hy
      obtain ⟨x, hx, hl⟩ := (hP z hz).2 hy
      have := f2 x hx (by omega)
      omega
    have hpt : ∀ z : Nat, (∃ r, Ev (fun k => spec_ptGroup.f k (a : Int) (m : Int) l [] (z : Int)) r ∧ (r.2 = true ↔ ∃ y ∈ dfs a (okS (colN a l)) a [], y.length = z)) := by
      intro z
      refine ⟨_, ptGroup_ev b (z : Int), ?_⟩
      cases e : ((dfs a (okS (colN a l)) a []).filter fun x => decide ((x.length : Int) = (z : Int))).head? with
      | none =>
        have hnil : ((dfs a (okS (colN a l)) a []).filter fun x => decide ((x.length : Int) = (z : Int))) = [] := by simpa using e
        refine ⟨fun h => by simp [tellG] at h, fun ⟨y, hy, hl⟩ => ?_⟩
        have : y ∈ ((dfs a (okS (colN a l)) a []).filter fun x => decide ((x.length : Int) = (z : Int))) := List.mem_filter.2 ⟨hy, decide_eq_true (by omega)⟩
        rw [hnil] at this
        cases this
      | some y =>
        have hy := List.mem_filter.1 (List.mem_of_mem_head? (show y ∈ _ from e))
        exact ⟨fun _ => ⟨y, hy.1, by have := of_decide_eq_true hy.2; omega⟩, fun _ => rfl⟩
    have loop : ∀ t : Nat, ∀ z : Nat, 2 ≤ z → (z : Int) + t = M → Ev (fun k => spec_MostOneColour.l0 k (z : Int) (a : Int) (m : Int) l) (M, true) := by
      intro t
      induction t with
      | zero =>
        intro z hz hzM
        have hzM' : (z : Int) = M := by omega
        obtain ⟨r, hr, hrp⟩ := hpt (z + 1)
        refine Ev.step (f := fun k => if (z : Int) < (a : Int) then ((spec_ptGroup.f k (a : Int) (m : Int) l [] ((z + 1 : Nat) : Int)).bind fun bt246 => (if bt246.2 = true then (spec_MostOneColour.l0 k ((z + 1 : Nat) : Int) (a : Int) (m : Int) l) else (some ((z : Int), true)))) else (some ((z : Int), true))) (fun k => ?_) ?_
        · simp only [spec_MostOneColour.l0]
          rw [show wrap64 ((z : Int) + 1) = ((z + 1 : Nat) : Int) by rw [wrap_id (by omega) (by omega)]; rfl]
        · rw [hzM']
          refine ev_if (fun _ => ?_) (fun _ => Ev.now _)
          refine Ev.bind hr ?_
          exact ev_if (fun h => absurd (hrp.1 h) (hno (z + 1) (by omega) (by omega))) (fun _ => Ev.now _)
      | succ t ih =>
        intro z hz hzM
        obtain ⟨r, hr, hrp⟩ := hpt (z + 1)
        refine Ev.step (f := fun k => (spec_ptGroup.f k (a : Int) (m : Int) l [] ((z + 1 : Nat) : Int)).bind fun bt246 => (if bt246.2 = true then (spec_MostOneColour.l0 k ((z + 1 : Nat) : Int) (a : Int) (m : Int) l) else (some ((z : Int), true)))) (fun k => ?_) ?_
        · simp only [spec_MostOneColour.l0]
          rw [if_pos (by omega), show wrap64 ((z : Int) + 1) = ((z + 1 : Nat) : Int) by rw [wrap_id (by omega) (by omega)]; rfl]
        · refine Ev.bind hr ?_
          exact ev_if (fun _ => ih (z + 1) (by omega) (by omega)) (fun h => absurd (hrp.2 (hyes (z + 1) (by omega) (by omega))) h)
    refine Ev.step (f := fun k => spec_MostOneColour.l0 k 2 (a : Int) (m : Int) l) (fun k => by simp only [spec_MostOneColour.j0]; rfl) ?_
    exact loop (M - 2).toNat 2 (by omega) (by omega)
theorem FnExactMostOneColour : laws_FnExactMostOneColour.Pure := by
  intro n c l _ _ hl _
  refine Ev.rounds (g := fun k => laws_FnExactMostOneColour.f k n c l) ?_
  unfold laws_FnExactMostOneColour.f
  refine ev_bind0 (szPainting_eq n c l 1048576 (by omega) (by omega) hl) ?_
  refine ev_if (fun _ => Ev.now _) (fun hb => ?_)
  have hs : l.length ≤ 1048576 := by
    by_cases h : (1048576 : Int) < (l.length : Int)
    · rw [if_pos h] at hb; omega
    · omega
  have hTl := toPainting_ev n c l (by omega)
  have hS := spec_ev n c l (by omega)
  have hI := impl_ev n c l (by omega)
  generalize tell n c l = t at hS hI
  obtain ⟨ps, ok1⟩ := t
  refine Ev.bind hTl ?_
  refine Ev.bind hS ?_
  refine Ev.bind hTl ?_
  refine Ev.bind hI ?_
  refine ev_if (fun _ => ?_) (fun h => absurd rfl h)
  show Ev (fun k => laws_FnExactMostOneColour.j0 k (ok1 != ok1) n c l n c l) true
  rw [show (ok1 != ok1) = false by simp]
  refine Ev.step (f := fun k => (laws_toPainting.f k n c l).bind fun bt267 => ((laws_eqPainting.f k n c l bt267.1 bt267.2.1 bt267.2.2).bind fun t272 => (if t272 = true then (some true) else (some false)))) (fun k => by simp only [laws_FnExactMostOneColour.j0]; rfl) ?_
  refine Ev.bind hTl ?_
  refine Ev.bind (eqPainting_ev n c l (by omega)) ?_
  refine ev_if (fun _ => ?_) (fun h => absurd rfl h)
  exact Ev.now _
end Go.Proofs.YteffcgocnkcpiaaDoor.Pure
