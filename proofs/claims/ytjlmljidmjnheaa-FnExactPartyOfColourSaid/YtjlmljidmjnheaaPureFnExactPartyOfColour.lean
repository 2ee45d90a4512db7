import Derived.Test.YtjlmljidmjnheaaQ0
import Derived.Test.YtjlmljidmjnheaaQ1
import Derived.Test.YtjlmljidmjnheaaQ3
import Derived.Test.YtjlmljidmjnheaaQ4
import Derived.Test.YtjlmljidmjnheaaQ8
import Derived.Test.YtjlmljidmjnheaaQ9
import Derived.Test.YtjlmljidmjnheaaQ11
import Derived.Test.YtjlmljidmjnheaaQ23
import Derived.Test.YtjlmljidmjnheaaQ26
import Derived.Test.YtjlmljidmjnheaaQ27
import Derived.Test.YtjlmljidmjnheaaQ28
import Derived.Test.YtjlmljidmjnheaaQ30
import Derived.Test.YtjlmljidmjnheaaQ32
import Derived.Test.YtjlmljidmjnheaaQ34
import Derived.Test.YtjlmljidmjnheaaQ35
import Derived.Test.YtjlmljidmjnheaaSayFnExactPartyOfColour
/- Plain lemmas over rounds, lists and whole numbers, for the pure statements of this seat. No condition. -/
namespace Go.Proofs.Ytjlmljidmjnheaa.Plain
open Go.RowKit Go.Proofs.YtjlmljidmjnheaaW.PrintWords Go.Proofs.YtjlmljidmjnheaaW.PrintLast
set_option linter.unusedVariables false

theorem wrap_id {x : Int} (h0 : -9223372036854775808 ≤ x) (h1 : x ≤ 9223372036854775807) : wrap64 x = x := by
  unfold wrap64
  omega

theorem rd_at {l : List Int} {i : Nat} (h : i < l.length) : rd l (i : Int) = l[i] := by
  simp [rd, List.getD, h]

theorem ev_some {α : Type} {g : Nat → Option α} {r : α} (h : ∀ k, g k = some r) : Ev g r := ⟨0, fun k _ => h k⟩

theorem ev_bind0 {α β : Type} {g : Option α} {f : Nat → α → Option β} {a : α} {r : β} (h : g = some a) (k : Ev (fun n => f n a) r) : Ev (fun n => g.bind (f n)) r := by
  obtain ⟨K, hK⟩ := k
  refine ⟨K, fun n hn => ?_⟩
  show g.bind (f n) = some r
  rw [h]
  exact hK n hn

theorem ev_if {α : Type} {c : Prop} [Decidable c] {f g : Nat → Option α} {r : α} (hf : c → Ev f r) (hg : ¬ c → Ev g r) : Ev (fun n => if c then f n else g n) r := by
  by_cases h : c
  · obtain ⟨K, hK⟩ := hf h
    exact ⟨K, fun n hn => (if_pos h).trans (hK n hn)⟩
  · obtain ⟨K, hK⟩ := hg h
    exact ⟨K, fun n hn => (if_neg h).trans (hK n hn)⟩

/-- A loop over an index, from any index on, in one shape. -/
theorem ev_up {α : Type} {n : Nat} {loop : Nat → Nat → Option α} {r : Nat → α} (hend : Ev (fun k => loop k n) (r n)) (hstep : ∀ i, i < n → (Ev (fun k => loop k (i + 1)) (r (i + 1)) → Ev (fun k => loop k i) (r i))) :
    ∀ i, i ≤ n → Ev (fun k => loop k i) (r i) := by
  intro i hi
  have : ∀ d i, i ≤ n → n - i = d → Ev (fun k => loop k i) (r i) := by
    intro d
    induction d with
    | zero =>
      intro i hi hd
      have e : i = n := by omega
      rw [e]; exact hend
    | succ d ih =>
      intro i hi hd
      exact hstep i (by omega) (ih (i + 1) (by omega) (by omega))
  exact this (n - i) i hi rfl
theorem succ_cast {i n : Nat} (h : i < n) (hn : n ≤ 9223372036854775807) : wrap64 ((i : Int) + 1) = ((i + 1 : Nat) : Int) := by
  rw [wrap_id (by omega) (by omega)]; rfl
end Go.Proofs.Ytjlmljidmjnheaa.Plain

/- The law's own functions over lists of whole numbers: copies, equality, bounds. No condition but lengths that fit. -/
namespace Go.Proofs.Ytjlmljidmjnheaa.Plain
open Go.RowKit Go.Proofs.YtjlmljidmjnheaaW.PrintWords Go.Proofs.YtjlmljidmjnheaaW.PrintLast
set_option linter.unusedVariables false
open Q

theorem copy_step (l : List Int) (i : Nat) (h : i < l.length) :
    (l.take i ++ List.replicate (l.length - i) (0 : Int)).set ((i : Int)).toNat (rd l (i : Int)) = l.take (i + 1) ++ List.replicate (l.length - (i + 1)) (0 : Int) := by
  have e : l.length - i = (l.length - (i + 1)) + 1 := by omega
  have hl : (l.take i).length = i := by simp; omega
  rw [Int.toNat_natCast, rd_at h, e, List.replicate_succ, List.set_append_right _ _ (by omega), hl, Nat.sub_self, List.set_cons_zero, List.take_succ_eq_append_getElem h, List.append_assoc]
  rfl

theorem toIntS_ev (l : List Int) (h : l.length ≤ 35184372088832) : Ev (fun k => laws_toIntS.f k l) l := by
  refine Ev.congr (f := fun k => laws_toIntS.l0 k l (List.replicate l.length 0) 0) (fun k => ?_) ?_
  · unfold laws_toIntS.f
    rw [if_pos (by omega), if_pos (by omega), Int.toNat_natCast]
  · have q := ev_up (n := l.length) (loop := fun k i => laws_toIntS.l0 k l (l.take i ++ List.replicate (l.length - i) 0) (i : Int)) (r := fun _ => l)
      (Ev.step (f := fun _ => some l) (fun k => by simp [laws_toIntS.l0]) (Ev.now l))
      (fun i hi ih => Ev.step (f := fun k => laws_toIntS.l0 k l (l.take (i + 1) ++ List.replicate (l.length - (i + 1)) 0) ((i + 1 : Nat) : Int)) (fun k => by
        simp only [laws_toIntS.l0]
        rw [if_pos (by omega), if_pos (by omega), if_pos (by simp; omega), copy_step l i hi, succ_cast hi (by omega)]) ih) 0 (Nat.zero_le _)
    simpa using q

theorem eqIntS_ev (l : List Int) (h : l.length ≤ 9223372036854775807) : Ev (fun k => laws_eqIntS.f k l l) true := by
  refine Ev.congr (f := fun k => laws_eqIntS.l0 k l l 0) (fun k => ?_) ?_
  · unfold laws_eqIntS.f
    rw [if_pos rfl]
  · exact ev_up (n := l.length) (loop := fun k i => laws_eqIntS.l0 k l l (i : Int)) (r := fun _ => true)
      (Ev.step (f := fun _ => some true) (fun k => by simp [laws_eqIntS.l0]) (Ev.now true))
      (fun i hi ih => Ev.step (f := fun k => laws_eqIntS.l0 k l l ((i + 1 : Nat) : Int)) (fun k => by
        simp only [laws_eqIntS.l0]
        rw [if_pos (by omega), if_pos (by omega), if_pos (by omega), if_pos trivial, succ_cast hi h]) ih) 0 (Nat.zero_le _)

theorem l1In_eq (a b c : Int) : spec_l1In.f a b c = some (decide (b ≤ a) && decide (a ≤ c)) := by
  unfold spec_l1In.f
  by_cases h : b ≤ a <;> simp [h]

theorem within_eq (a b c : Int) : impl_within.f a b c = some (decide (b ≤ a) && decide (a ≤ c)) := by
  unfold impl_within.f
  by_cases h : b ≤ a <;> simp [h]

theorem l1All_ev (l : List Int) (lo hi : Int) (h : l.length ≤ 9223372036854775807) : Ev (fun k => spec_l1All.f k l lo hi) (l.all fun x => decide (lo ≤ x) && decide (x ≤ hi)) := by
  have q := ev_up (n := l.length) (loop := fun k i => spec_l1All.l0 k lo hi l (l.length : Int) (i : Int)) (r := fun i => (l.drop i).all fun x => decide (lo ≤ x) && decide (x ≤ hi))
    (Ev.step (f := fun _ => some true) (fun k => by simp [spec_l1All.l0]) (by simpa using Ev.now true))
    (fun i hi' ih => by
      have e : (l.drop i).all (fun x => decide (lo ≤ x) && decide (x ≤ hi)) = ((decide (lo ≤ l[i]) && decide (l[i] ≤ hi)) && (l.drop (i + 1)).all fun x => decide (lo ≤ x) && decide (x ≤ hi)) := by
        rw [List.drop_eq_getElem_cons hi', List.all_cons]
      rw [e]
      cases hb : (decide (lo ≤ l[i]) && decide (l[i] ≤ hi)) with
      | true =>
        refine Ev.step (f := fun k => spec_l1All.l0 k lo hi l (l.length : Int) ((i + 1 : Nat) : Int)) (fun k => ?_) (by simpa using ih)
        simp only [spec_l1All.l0]
        rw [if_pos (by omega), if_pos (by omega), if_pos (by omega), l1In_eq, rd_at hi', hb, Option.bind_some, if_pos rfl, succ_cast hi' h]
      | false =>
        refine Ev.step (f := fun _ => some false) (fun k => ?_) (by simpa using Ev.now false)
        simp only [spec_l1All.l0]
        rw [if_pos (by omega), if_pos (by omega), if_pos (by omega), l1In_eq, rd_at hi', hb, Option.bind_some, if_neg (by simp)]) 0 (Nat.zero_le _)
  simpa [spec_l1All.f] using q

theorem szIntS_eq (l : List Int) (a : Int) (h0 : 0 ≤ a) (h1 : a ≤ 1048576) (h : l.length ≤ 9223372036854775807) : laws_szIntS.f l a = some (if a < (l.length : Int) then -1 else a - l.length) := by
  unfold laws_szIntS.f
  rw [wrap_id (by omega) (by omega)]
  by_cases hl : a < (l.length : Int)
  · rw [if_pos (by omega), if_pos hl]
  · rw [if_neg (by omega), if_neg hl]
end Go.Proofs.Ytjlmljidmjnheaa.Plain

/- Parties: both sides' tests, and the law's own functions over parties. No condition but lengths that fit. -/
namespace Go.Proofs.Ytjlmljidmjnheaa.Plain
open Go.RowKit Go.Proofs.YtjlmljidmjnheaaW.PrintWords Go.Proofs.YtjlmljidmjnheaaW.PrintLast
set_option linter.unusedVariables false
open Q

abbrev Pr := S65
abbrev rdP (l : List Pr) (i : Int) : Pr := rd_T65 l i

theorem rdP_at {l : List Pr} {i : Nat} (h : i < l.length) : rd_T65 l (i : Int) = l[i] := by
  simp [rd_T65, List.getD, h]

def pairOk (n : Int) (x : Pr) : Bool := decide (0 ≤ x.f0) && (decide (x.f0 < x.f1) && decide (x.f1 < n))
def lessB (x y : Pr) : Bool := decide (x.f0 < y.f0) || (decide (x.f0 = y.f0) && decide (x.f1 < y.f1))
/-- The pair at an index is right, and comes behind the one before. -/
def okAt (n : Int) (l : List Pr) (i : Nat) : Bool := pairOk n (rdP l i) && (decide (i = 0) || lessB (rdP l ((i : Int) - 1)) (rdP l i))
def party (n : Int) (l : List Pr) : Bool := (decide (0 ≤ n) && decide (n ≤ 12)) && (List.range l.length).all (okAt n l)

/-! What a party is, in words of numbers. -/
end Go.Proofs.Ytjlmljidmjnheaa.Plain

/- A party as a relation between people; sets of people as numbers; how many hold. Plain lemmas. No condition. -/
namespace Go.Proofs.Ytjlmljidmjnheaa.Plain
open Go.RowKit Go.Proofs.YtjlmljidmjnheaaW.PrintWords Go.Proofs.YtjlmljidmjnheaaW.PrintLast
set_option linter.unusedVariables false
open Q

/-- All pairs are right for n people. -/
def Right (n : Nat) (l : List Pr) : Prop := ∀ x ∈ l, 0 ≤ x.f0 ∧ x.f0 < x.f1 ∧ x.f1 < (n : Int)
theorem Right.take {n : Nat} {l : List Pr} (h : Right n l) (i : Nat) : Right n (l.take i) := fun x hx => h x (List.mem_of_mem_take hx)

/-! Sets of people as numbers. -/
def maskOf (f : Nat → Bool) : Nat → Nat
  | 0 => 0
  | n + 1 => maskOf f n + (if f n = true then 2 ^ n else 0)

theorem maskOf_lt (f : Nat → Bool) : ∀ n, maskOf f n < 2 ^ n
  | 0 => by simp [maskOf]
  | n + 1 => by
    have := maskOf_lt f n
    unfold maskOf
    rw [Nat.pow_succ]
    split <;> omega

theorem maskOf_bit (f : Nat → Bool) : ∀ n b, (maskOf f n).testBit b = (decide (b < n) && f b)
  | 0, b => by simp [maskOf]
  | n + 1, b => by
    have ih := maskOf_bit f n b
    have hlt := maskOf_lt f n
    unfold maskOf
    by_cases h : f n = true
    · rw [if_pos h, Nat.add_comm]
      rcases Nat.lt_trichotomy b n with hb | rfl | hb
      · rw [Nat.testBit_two_pow_add_gt hb, ih]
        simp [hb, Nat.lt_succ_of_lt hb]
      · rw [Nat.testBit_two_pow_add_eq, Nat.testBit_lt_two_pow hlt]
        simp [h]
      · have h1 : 2 ^ (n + 1) ≤ 2 ^ b := Nat.pow_le_pow_right (by omega) (by omega)
        rw [Nat.pow_succ] at h1
        rw [Nat.testBit_lt_two_pow (by omega)]
        simp; omega
    · rw [if_neg h, Nat.add_zero, ih]
      by_cases e : b = n
      · subst e
        simp [Bool.eq_false_iff.mpr h]
      · have : decide (b < n + 1) = decide (b < n) := by
          apply decide_eq_decide.mpr; omega
        rw [this]

theorem maskOf_congr {f g : Nat → Bool} : ∀ {n}, (∀ b, b < n → f b = g b) → maskOf f n = maskOf g n
  | 0, _ => rfl
  | n + 1, h => by
    unfold maskOf
    rw [maskOf_congr (n := n) (fun b hb => h b (by omega)), h n (by omega)]

theorem mask_or (f g : Nat → Bool) (n : Nat) : maskOf f n ||| maskOf g n = maskOf (fun b => f b || g b) n := by
  apply Nat.eq_of_testBit_eq
  intro b
  rw [Nat.testBit_or, maskOf_bit, maskOf_bit, maskOf_bit]
  cases decide (b < n) <;> simp
theorem mask_one {n b : Nat} (h : b < n) : (2 ^ b : Nat) = maskOf (fun c => decide (c = b)) n := by
  apply Nat.eq_of_testBit_eq
  intro c
  rw [Nat.testBit_two_pow, maskOf_bit]
  by_cases e : b = c
  · subst e; simp [h]
  · have : ¬ (c = b) := fun q => e q.symm
    simp [e, this]

/-! How many hold. -/
end Go.Proofs.Ytjlmljidmjnheaa.Plain

/- The program's table of a party: for each person its friends, as the bits of a number. No condition but lengths that fit. -/
namespace Go.Proofs.Ytjlmljidmjnheaa.Plain
open Go.RowKit Go.Proofs.YtjlmljidmjnheaaW.PrintWords Go.Proofs.YtjlmljidmjnheaaW.PrintLast
set_option linter.unusedVariables false
open Q

theorem wraps_u16 (n : Int) (h₀ : 0 ≤ n) (h₁ : n < 2 ^ 16) : IntKind.u16.wrap n = n := by
  have : IntKind.u16.wrap n = n % 65536 := by simp [IntKind.wrap, IntKind.bits, IntKind.signed]
  rw [this]; omega
theorem or16 {a b : Nat} (ha : a < 2 ^ 16) (hb : b < 2 ^ 16) : Go.bits .or .u16 (a : Int) (b : Int) = ((a ||| b : Nat) : Int) := (bits_nat .u16 16 (by decide) wraps_u16 a b ha hb).2
theorem and16 {a b : Nat} (ha : a < 2 ^ 16) (hb : b < 2 ^ 16) : Go.bits .and .u16 (a : Int) (b : Int) = ((a &&& b : Nat) : Int) := (bits_nat .u16 16 (by decide) wraps_u16 a b ha hb).1
theorem shl16 {b : Nat} (hb : b < 16) : shl .u16 1 (b : Int) = ((2 ^ b : Nat) : Int) := by
  unfold shl
  have h1 : min ((b : Int)).toNat IntKind.u16.bits = b := by
    rw [Int.toNat_natCast]
    exact Nat.min_eq_left (by show b ≤ 16; omega)
  rw [h1, Int.one_mul, wraps_u16]
  · simp
  · exact Int.pow_nonneg (by decide)
  · have : (2 : Nat) ^ b < 2 ^ 16 := Nat.pow_lt_pow_right (by omega) hb
    exact_mod_cast this

/-- The table of a relation of n people. -/
def tabF (n : Nat) (f : Nat → Nat → Bool) : List Int := (List.range n).map fun a => ((maskOf (f a) n : Nat) : Int)
theorem tabF_length (n : Nat) (f : Nat → Nat → Bool) : (tabF n f).length = n := by simp [tabF]
theorem tabF_get {n : Nat} {f : Nat → Nat → Bool} {a : Nat} (h : a < n) : rd (tabF n f) (a : Int) = ((maskOf (f a) n : Nat) : Int) := by
  rw [rd_at (by rw [tabF_length]; exact h)]
  simp [tabF]
theorem mask16 {f : Nat → Bool} {n : Nat} (h : n ≤ 16) : maskOf f n < 2 ^ 16 := Nat.lt_of_lt_of_le (maskOf_lt f n) (Nat.pow_le_pow_right (by omega) h)

/-- The relation with two people made friends. -/
def withP (f : Nat → Nat → Bool) (a b : Nat) : Nat → Nat → Bool := fun c d => f c d || ((decide (c = a) && decide (d = b)) || (decide (c = b) && decide (d = a)))

/-- One pair put into the table, as both the loop and 'put' do it. -/
theorem tab_put {n : Nat} (hn : n ≤ 16) (f : Nat → Nat → Bool) {a b : Nat} (ha : a < n) (hb : b < n) (hab : a ≠ b) :
    ((tabF n f).set a (Go.bits .or .u16 (rd (tabF n f) (a : Int)) (shl .u16 1 (b : Int)))).set b
      (Go.bits .or .u16 (rd ((tabF n f).set a (Go.bits .or .u16 (rd (tabF n f) (a : Int)) (shl .u16 1 (b : Int)))) (b : Int)) (shl .u16 1 (a : Int))) = tabF n (withP f a b) := by
  have e1 : Go.bits .or .u16 (rd (tabF n f) (a : Int)) (shl .u16 1 (b : Int)) = ((maskOf (withP f a b a) n : Nat) : Int) := by
    rw [tabF_get ha, shl16 (by omega), or16 (mask16 hn) (Nat.pow_lt_pow_right (by omega) (by omega)), mask_one hb, mask_or]
    congr 1
    apply maskOf_congr
    intro c _
    unfold withP
    simp [hab]
  have e2 : rd ((tabF n f).set a (Go.bits .or .u16 (rd (tabF n f) (a : Int)) (shl .u16 1 (b : Int)))) (b : Int) = ((maskOf (f b) n : Nat) : Int) := by
    rw [rd_at (by rw [List.length_set, tabF_length]; exact hb), List.getElem_set_ne hab]
    simp [tabF]
  have e3 : Go.bits .or .u16 ((maskOf (f b) n : Nat) : Int) (shl .u16 1 (a : Int)) = ((maskOf (withP f a b b) n : Nat) : Int) := by
    rw [shl16 (by omega), or16 (mask16 hn) (Nat.pow_lt_pow_right (by omega) (by omega)), mask_one ha, mask_or]
    congr 1
    apply maskOf_congr
    intro c _
    unfold withP
    simp [show ¬ (b = a) from fun q => hab q.symm]
  rw [e2, e3, e1]
  apply List.ext_getElem
  · simp [tabF_length]
  · intro i h1 h2
    rw [tabF_length] at h2
    rw [List.getElem_set, List.getElem_set]
    by_cases i1 : b = i
    · subst i1
      rw [if_pos rfl]
      simp [tabF]
    · rw [if_neg i1]
      by_cases i2 : a = i
      · subst i2
        rw [if_pos rfl]
        simp [tabF]
      · rw [if_neg i2]
        simp only [tabF, List.getElem_map, List.getElem_range]
        congr 1
        apply maskOf_congr
        intro c _
        unfold withP
        simp [show ¬ (i = a) from fun q => i2 q.symm, show ¬ (i = b) from fun q => i1 q.symm]

end Go.Proofs.Ytjlmljidmjnheaa.Plain

/- The reference's table of a party: for each person, of each person, whether they are friends. No condition but lengths that fit. -/
namespace Go.Proofs.Ytjlmljidmjnheaa.Plain
open Go.RowKit Go.Proofs.YtjlmljidmjnheaaW.PrintWords Go.Proofs.YtjlmljidmjnheaaW.PrintLast
set_option linter.unusedVariables false
open Q

end Go.Proofs.Ytjlmljidmjnheaa.Plain

/- The party of a table, on both sides. No condition but that there are at most twelve people. -/
namespace Go.Proofs.Ytjlmljidmjnheaa.Plain
open Go.RowKit Go.Proofs.YtjlmljidmjnheaaW.PrintWords Go.Proofs.YtjlmljidmjnheaaW.PrintLast
set_option linter.unusedVariables false
open Q

theorem has_eq {n : Nat} (hn : n ≤ 12) (f : Nat → Nat → Bool) {a b : Nat} (ha : a < n) (hb : b < n) : impl_table_has.f (tabF n f) (a : Int) (b : Int) = some (f a b) := by
  unfold impl_table_has.f
  rw [if_pos (by omega), if_pos (by rw [tabF_length]; omega), if_pos (by omega), tabF_get ha]
  have hm := mask16 (f := f a) (n := n) (by omega)
  have e1 : shr .u16 ((maskOf (f a) n : Nat) : Int) (b : Int) = ((maskOf (f a) n / 2 ^ b : Nat) : Int) := by
    unfold shr
    have h1 : min ((b : Int)).toNat IntKind.u16.bits = b := by
      rw [Int.toNat_natCast]
      exact Nat.min_eq_left (by show b ≤ 16; omega)
    rw [h1]
    simp
  have hlt : maskOf (f a) n / 2 ^ b < 2 ^ 16 := Nat.lt_of_le_of_lt (Nat.div_le_self _ _) hm
  have e2 : Go.bits .and .u16 ((maskOf (f a) n / 2 ^ b : Nat) : Int) 1 = (((maskOf (f a) n / 2 ^ b) % 2 : Nat) : Int) := by
    rw [show (1 : Int) = ((1 : Nat) : Int) by rfl, and16 hlt (by omega), Nat.and_one_is_mod]
  rw [e1, e2]
  have hb2 := maskOf_bit (f a) n b
  rw [Nat.testBit_eq_decide_div_mod_eq, decide_eq_true hb, Bool.true_and] at hb2
  congr 1
  rw [← hb2, Bool.eq_iff_iff, beq_iff_eq, decide_eq_true_eq]
  omega

/-- A person's pairs with people from b on. -/
def rowFrom (n : Nat) (f : Nat → Bool) (a b : Nat) : List Pr := ((List.range n).drop b).filterMap fun c => if f c = true then some ⟨(a : Int), (c : Int)⟩ else none
/-- The pairs of people from a on. -/
def restFrom (n : Nat) (f : Nat → Nat → Bool) (a : Nat) : List Pr := ((List.range n).drop a).flatMap fun a => rowFrom n (f a) a (a + 1)
/-- The pairs of a relation, in order. -/
def pairsF (n : Nat) (f : Nat → Nat → Bool) : List Pr := restFrom n f 0

theorem rowFrom_end (n : Nat) (f : Nat → Bool) (a b : Nat) (h : n ≤ b) : rowFrom n f a b = [] := by
  unfold rowFrom
  rw [List.drop_of_length_le (by simpa using h)]; rfl
theorem rowFrom_step {n : Nat} {f : Nat → Bool} {a b : Nat} (h : b < n) : rowFrom n f a b = (if f b = true then [⟨(a : Int), (b : Int)⟩] else []) ++ rowFrom n f a (b + 1) := by
  unfold rowFrom
  rw [List.drop_eq_getElem_cons (by simpa using h), List.filterMap_cons, List.getElem_range]
  by_cases c : f b = true
  · rw [if_pos c, if_pos c]; rfl
  · rw [if_neg c, if_neg c]; rfl
theorem restFrom_end (n : Nat) (f : Nat → Nat → Bool) : restFrom n f n = [] := by
  unfold restFrom
  rw [List.drop_of_length_le (by simp)]; rfl
theorem restFrom_step {n : Nat} {f : Nat → Nat → Bool} {a : Nat} (h : a < n) : restFrom n f a = rowFrom n (f a) a (a + 1) ++ restFrom n f (a + 1) := by
  unfold restFrom
  rw [List.drop_eq_getElem_cons (by simpa using h), List.flatMap_cons, List.getElem_range]

theorem party_ev {n : Nat} (hn : n ≤ 12) (f : Nat → Nat → Bool) : Ev (fun k => impl_table_party.f k (tabF n f)) ((n : Int), pairsF n f) := by
  have outer : ∀ d a acc, a ≤ n → n - a = d → List.length acc ≤ 12 * a → Ev (fun k => impl_table_party.l0 k (tabF n f) (n : Int) (a : Int) (n : Int) acc) ((n : Int), acc ++ restFrom n f a) := by
    intro d
    induction d with
    | zero =>
      intro a acc ha hd _
      have e : a = n := by omega
      subst e
      rw [restFrom_end, List.append_nil]
      refine Ev.step (f := fun _ => some ((a : Int), acc)) (fun k => ?_) (Ev.now _)
      simp only [impl_table_party.l0]
      rw [if_neg (by omega)]
    | succ d ihd =>
      intro a acc ha hd hacc
      have han : a < n := by omega
      have inner : ∀ e b acc, a < b → b ≤ n → n - b = e → List.length acc ≤ 12 * a + b - 1 → Ev (fun k => impl_table_party.l1 k (tabF n f) (a : Int) (b : Int) (n : Int) (a : Int) (n : Int) acc) ((n : Int), acc ++ (rowFrom n (f a) a b ++ restFrom n f (a + 1))) := by
        intro e
        induction e with
        | zero =>
          intro b acc hab hb he hacc
          have e : b = n := by omega
          subst e
          rw [rowFrom_end _ _ _ _ (Nat.le_refl _), List.nil_append]
          refine Ev.step (f := fun k => impl_table_party.l0 k (tabF b f) (b : Int) ((a + 1 : Nat) : Int) (b : Int) acc) (fun k => ?_) (ihd (a + 1) acc (by omega) (by omega) (by omega))
          simp only [impl_table_party.l1]
          rw [if_neg (by rw [tabF_length]; omega), succ_cast han (by omega)]
        | succ e ihe =>
          intro b acc hab hb he hacc
          have hbn : b < n := by omega
          rw [rowFrom_step hbn]
          by_cases c : f a b = true
          · refine Ev.step (f := fun k => impl_table_party.l1 k (tabF n f) (a : Int) ((b + 1 : Nat) : Int) (n : Int) (a : Int) (n : Int) (acc ++ [⟨(a : Int), (b : Int)⟩])) (fun k => ?_) (by
              have := ihe (b + 1) (acc ++ [⟨(a : Int), (b : Int)⟩]) (by omega) (by omega) (by omega) (by simp; omega)
              rw [if_pos c]
              rw [List.append_assoc] at this ⊢
              exact this)
            simp only [impl_table_party.l1]
            rw [if_pos (by rw [tabF_length]; omega), has_eq hn f han hbn, Option.bind_some, if_pos c, if_pos (by omega), succ_cast hbn (by omega)]
          · refine Ev.step (f := fun k => impl_table_party.l1 k (tabF n f) (a : Int) ((b + 1 : Nat) : Int) (n : Int) (a : Int) (n : Int) acc) (fun k => ?_) (by
              have := ihe (b + 1) acc (by omega) (by omega) (by omega) (by omega)
              rw [if_neg c, List.nil_append]
              exact this)
            simp only [impl_table_party.l1]
            rw [if_pos (by rw [tabF_length]; omega), has_eq hn f han hbn, Option.bind_some, if_neg c, succ_cast hbn (by omega)]
      rw [restFrom_step han]
      refine Ev.step (f := fun k => impl_table_party.l1 k (tabF n f) (a : Int) ((a + 1 : Nat) : Int) (n : Int) (a : Int) (n : Int) acc) (fun k => ?_) (inner (n - (a + 1)) (a + 1) acc (by omega) (by omega) rfl (by omega))
      simp only [impl_table_party.l0]
      rw [if_pos (by omega), succ_cast han (by omega)]
  refine Ev.congr (f := fun k => impl_table_party.l0 k (tabF n f) (n : Int) 0 (n : Int) []) (fun k => ?_) (outer n 0 [] (Nat.zero_le _) rfl (by simp))
  unfold impl_table_party.f
  rw [tabF_length]
end Go.Proofs.Ytjlmljidmjnheaa.Plain

/- The reference's other party: friends are who were none. No condition but that there are at most twelve people. -/
namespace Go.Proofs.Ytjlmljidmjnheaa.Plain
open Go.RowKit Go.Proofs.YtjlmljidmjnheaaW.PrintWords Go.Proofs.YtjlmljidmjnheaaW.PrintLast
set_option linter.unusedVariables false
open Q

theorem rowFrom_length (n : Nat) (f : Nat → Bool) (a b : Nat) : (rowFrom n f a b).length ≤ n := by
  unfold rowFrom
  refine Nat.le_trans (List.length_filterMap_le _ _) ?_
  rw [List.length_drop, List.length_range]; omega
theorem pairsF_length {n : Nat} (hn : n ≤ 12) (f : Nat → Nat → Bool) : (pairsF n f).length ≤ 1000 := by
  have q : ∀ d a, n - a = d → a ≤ n → (restFrom n f a).length ≤ 12 * d := by
    intro d
    induction d with
    | zero =>
      intro a h1 h2
      have e : a = n := by omega
      subst e
      rw [restFrom_end]; simp
    | succ d ih =>
      intro a h1 h2
      rw [restFrom_step (by omega), List.length_append]
      have h3 := ih (a + 1) (by omega) (by omega)
      have h4 := rowFrom_length n (f a) a (a + 1)
      omega
  have := q n 0 rfl (Nat.zero_le _)
  unfold pairsF
  omega

end Go.Proofs.Ytjlmljidmjnheaa.Plain

/- One pair put into a table, on both sides; the empty tables. No condition but that there are at most twelve people. -/
namespace Go.Proofs.Ytjlmljidmjnheaa.Plain
open Go.RowKit Go.Proofs.YtjlmljidmjnheaaW.PrintWords Go.Proofs.YtjlmljidmjnheaaW.PrintLast
set_option linter.unusedVariables false
open Q

theorem put_eq {n : Nat} (hn : n ≤ 12) (f : Nat → Nat → Bool) {a b : Nat} (ha : a < n) (hb : b < n) (hab : a ≠ b) : impl_table_put.f (tabF n f) (a : Int) (b : Int) = some (tabF n (withP f a b)) := by
  have h := tab_put (n := n) (by omega) f ha hb hab
  unfold impl_table_put.f
  rw [if_pos (by omega), if_pos (by rw [tabF_length]; omega), if_pos (by omega), Option.bind_some, if_pos (by rw [tabF_length]; omega), Int.toNat_natCast, Int.toNat_natCast, h]

theorem tabF_zero (n : Nat) : List.replicate n 0 = tabF n (fun _ _ => false) := by
  have hz : ∀ m, maskOf (fun _ => false) m = 0 := by
    intro m
    induction m with
    | zero => rfl
    | succ m ih => unfold maskOf; rw [ih]; simp
  symm
  unfold tabF
  rw [List.eq_replicate_iff]
  refine ⟨by simp, fun b hb => ?_⟩
  obtain ⟨a, _, rfl⟩ := List.mem_map.1 hb
  rw [hz]; rfl

end Go.Proofs.Ytjlmljidmjnheaa.Plain

/- A symmetric relation put into a table row by row, each pair once; the pairs of a relation. No condition. -/
namespace Go.Proofs.Ytjlmljidmjnheaa.Plain
open Go.RowKit Go.Proofs.YtjlmljidmjnheaaW.PrintWords Go.Proofs.YtjlmljidmjnheaaW.PrintLast
set_option linter.unusedVariables false
open Q

theorem pairsF_congr {n : Nat} {f g : Nat → Nat → Bool} (h : ∀ a b, a < b → b < n → f a b = g a b) : pairsF n f = pairsF n g := by
  unfold pairsF restFrom
  rw [List.drop_zero, List.flatMap_def, List.flatMap_def]
  congr 1
  apply List.map_congr_left
  intro a _
  unfold rowFrom
  have cong : ∀ (z : List Nat) (p q : Nat → Option Pr), (∀ b ∈ z, p b = q b) → z.filterMap p = z.filterMap q := by
    intro z p q
    induction z with
    | nil => intro _; rfl
    | cons x t ih =>
      intro hpq
      rw [List.filterMap_cons, List.filterMap_cons, hpq x (List.mem_cons_self ..), ih (fun b hb => hpq b (List.mem_cons_of_mem _ hb))]
  have : ∀ b ∈ (List.range n).drop (a + 1), (if f a b = true then some (⟨(a : Int), (b : Int)⟩ : Pr) else none) = (if g a b = true then some ⟨(a : Int), (b : Int)⟩ else none) := by
    intro b hb
    obtain ⟨i, hi, rfl⟩ := List.mem_iff_getElem.1 hb
    rw [List.length_drop, List.length_range] at hi
    rw [List.getElem_drop, List.getElem_range] at *
    rw [h a (a + 1 + i) (by omega) (by omega)]
  exact cong _ _ _ this

/-- A relation, when the rows before i and j cells of row i are seen. -/
def seenG (g : Nat → Nat → Bool) (i j : Nat) : Nat → Nat → Bool := fun a b => g a b && decide ((b < a ∧ (a < i ∨ (a = i ∧ b < j))) ∨ (a < b ∧ (b < i ∨ (b = i ∧ a < j))))
theorem seenG_yes {g : Nat → Nat → Bool} (hg : ∀ a b, g a b = g b a) {i j : Nat} (hj : j < i) (h : g i j = true) : withP (seenG g i j) i j = seenG g i (j + 1) := by
  funext c d
  unfold withP seenG
  by_cases h1 : c = i ∧ d = j
  · obtain ⟨rfl, rfl⟩ := h1
    rw [h]
    simp [hj]
  · by_cases h2 : c = j ∧ d = i
    · obtain ⟨rfl, rfl⟩ := h2
      rw [hg c d, h]
      simp [hj]
    · have e1 : (decide (c = i) && decide (d = j)) = false := by rw [Bool.eq_false_iff]; intro q; exact h1 (by simpa using q)
      have e2 : (decide (c = j) && decide (d = i)) = false := by rw [Bool.eq_false_iff]; intro q; exact h2 (by simpa using q)
      rw [e1, e2, Bool.or_false, Bool.or_false]
      congr 1
      apply decide_eq_decide.mpr
      omega
theorem seenG_no {g : Nat → Nat → Bool} (hg : ∀ a b, g a b = g b a) {i j : Nat} (hj : j < i) (h : g i j = false) : seenG g i j = seenG g i (j + 1) := by
  funext c d
  unfold seenG
  by_cases h1 : c = i ∧ d = j
  · obtain ⟨rfl, rfl⟩ := h1
    rw [h]; rfl
  · by_cases h2 : c = j ∧ d = i
    · obtain ⟨rfl, rfl⟩ := h2
      rw [hg c d, h]; rfl
    · congr 1
      apply decide_eq_decide.mpr
      omega
theorem seenG_row (g : Nat → Nat → Bool) (i : Nat) : seenG g i i = seenG g (i + 1) 0 := by
  funext c d
  unfold seenG
  congr 1
  apply decide_eq_decide.mpr
  omega
theorem seenG_zero (g : Nat → Nat → Bool) : seenG g 0 0 = fun _ _ => false := by
  funext c d
  unfold seenG
  rw [decide_eq_false (by omega), Bool.and_false]
theorem seenG_pairs (g : Nat → Nat → Bool) (n : Nat) : pairsF n (seenG g n 0) = pairsF n g := pairsF_congr (fun a b h1 h2 => by
  unfold seenG
  rw [decide_eq_true (by omega), Bool.and_true])
end Go.Proofs.Ytjlmljidmjnheaa.Plain

/- Paintings: both sides' tests, and the law's own functions over paintings. No condition but lengths that fit. -/
namespace Go.Proofs.Ytjlmljidmjnheaa.Plain
open Go.RowKit Go.Proofs.YtjlmljidmjnheaaW.PrintWords Go.Proofs.YtjlmljidmjnheaaW.PrintLast
set_option linter.unusedVariables false
open Q

/-- A painting: so many people, so many colours, a colour for each pair. -/
def painted (n c : Int) (l : List Int) : Bool := (decide (0 ≤ n) && decide (n ≤ 8)) && ((decide (1 ≤ c) && decide (c ≤ 3)) && (decide ((l.length : Int) = n * (n - 1) / 2) && l.all fun x => decide (0 ≤ x) && decide (x ≤ c - 1)))

theorem szPainting_eq (n c : Int) (l : List Int) (a : Int) (h0 : 0 ≤ a) (h1 : a ≤ 1048576) (h : l.length ≤ 9223372036854775807) : laws_szPainting.f n c l a = some (if a < (l.length : Int) then -1 else a - l.length) := by
  unfold laws_szPainting.f
  rw [szIntS_eq l a h0 h1 h, Option.bind_some]
  by_cases hl : a < (l.length : Int)
  · rw [if_pos hl, if_pos (by omega)]
  · rw [if_neg hl, if_neg (by omega)]

theorem toPainting_ev (n c : Int) (l : List Int) (h : l.length ≤ 35184372088832) : Ev (fun k => laws_toPainting.f k n c l) (n, c, l) := by
  refine Ev.bind (f := fun _ t => some (n, c, t)) (toIntS_ev l h) (Ev.now _)

theorem eqPainting_ev (n c : Int) (l : List Int) (h : l.length ≤ 9223372036854775807) : Ev (fun k => laws_eqPainting.f k n c l n c l) true := by
  refine Ev.congr (f := fun k => (laws_eqIntS.f k l l).bind fun t => if t = true then some true else some false) (fun k => ?_) ?_
  · unfold laws_eqPainting.f
    rw [if_pos rfl, if_pos rfl]
  · exact Ev.bind (f := fun _ t => if t = true then some true else some false) (eqIntS_ev l h) (ev_some (fun _ => rfl))

theorem pairs_of {n : Int} (h0 : 0 ≤ n) (h1 : n ≤ 8) : wrap64 (Int.tdiv (wrap64 (n * (wrap64 (n - 1)))) 2) = n * (n - 1) / 2 := by
  have : n = 0 ∨ n = 1 ∨ n = 2 ∨ n = 3 ∨ n = 4 ∨ n = 5 ∨ n = 6 ∨ n = 7 ∨ n = 8 := by omega
  rcases this with rfl | rfl | rfl | rfl | rfl | rfl | rfl | rfl | rfl <;> decide +kernel

theorem choose_two {n : Int} (h0 : 0 ≤ n) (h1 : n ≤ 8) : Ev (fun k => impl_choose.f k n 2) (n * (n - 1) / 2) := by
  refine Ev.of (fun k => impl_choose.mono n 2 k) (k := 10) ?_
  have : n = 0 ∨ n = 1 ∨ n = 2 ∨ n = 3 ∨ n = 4 ∨ n = 5 ∨ n = 6 ∨ n = 7 ∨ n = 8 := by omega
  rcases this with rfl | rfl | rfl | rfl | rfl | rfl | rfl | rfl | rfl <;> decide +kernel

theorem ptGood_ev (n c : Int) (l : List Int) (h : l.length ≤ 9223372036854775807) : Ev (fun k => spec_ptGood.f k n c l) (painted n c l) := by
  unfold spec_ptGood.f
  refine ev_bind0 (l1In_eq _ _ _) ?_
  refine ev_if (fun b1 => ?_) (fun b1 => ?_)
  · refine ev_bind0 (l1In_eq _ _ _) ?_
    refine ev_if (fun b2 => ?_) (fun b2 => ?_)
    · have c1 : 0 ≤ n ∧ n ≤ 8 := by simpa using b1
      have c2 : 1 ≤ c ∧ c ≤ 3 := by simpa using b2
      rw [pairs_of c1.1 c1.2, wrap_id (x := c - 1) (by omega) (by omega)]
      refine ev_if (fun b3 => ?_) (fun b3 => ?_)
      · have e : painted n c l = l.all fun x => decide (0 ≤ x) && decide (x ≤ c - 1) := by
          unfold painted
          rw [b1, b2, decide_eq_true b3]; simp
        rw [e]
        exact Ev.bind (f := fun _ t => some t) (l1All_ev l _ _ h) (Ev.now _)
      · have e : painted n c l = false := by
          unfold painted
          rw [decide_eq_false b3]; simp
        rw [e]; exact Ev.now _
    · have e : painted n c l = false := by
        unfold painted
        rw [Bool.eq_false_iff.mpr b2]; simp
      rw [e]; exact Ev.now _
  · have e : painted n c l = false := by
      unfold painted
      rw [Bool.eq_false_iff.mpr b1]; simp
    rw [e]; exact Ev.now _

theorem isPainting_ev (n c : Int) (l : List Int) (h : l.length ≤ 9223372036854775807) : Ev (fun k => impl_IsPainting.f k n c l) (painted n c l) := by
  unfold impl_IsPainting.f
  have hp : impl_isPainted.f n c = some ((decide (0 ≤ n) && decide (n ≤ 8)) && (decide (1 ≤ c) && decide (c ≤ 3))) := by
    unfold impl_isPainted.f
    rw [within_eq, within_eq, Option.bind_some]
    cases (decide (0 ≤ n) && decide (n ≤ 8)) <;> simp
  refine ev_bind0 hp ?_
  refine ev_if (fun b1 => ?_) (fun b1 => ?_)
  · have c1 : (0 ≤ n ∧ n ≤ 8) ∧ (1 ≤ c ∧ c ≤ 3) := by simpa using b1
    refine Ev.bind (choose_two c1.1.1 c1.1.2) ?_
    rw [wrap_id (x := c - 1) (by omega) (by omega)]
    refine ev_if (fun b3 => ?_) (fun b3 => ?_)
    · have e : painted n c l = l.all fun x => decide (0 ≤ x) && decide (x ≤ c - 1) := by
        unfold painted
        rw [← Bool.and_assoc, b1, decide_eq_true b3]; simp
      rw [e]
      exact ev_some (fun _ => rfl)
    · have e : painted n c l = false := by
        unfold painted
        rw [decide_eq_false b3]; simp
      rw [e]; exact Ev.now _
  · have e : painted n c l = false := by
      unfold painted
      rw [← Bool.and_assoc, Bool.eq_false_iff.mpr b1]; simp
    rw [e]; exact Ev.now _
end Go.Proofs.Ytjlmljidmjnheaa.Plain

/- The place of a pair among the pairs of a painting, and its colour, on both sides. No condition but lengths that fit. -/
namespace Go.Proofs.Ytjlmljidmjnheaa.Plain
open Go.RowKit Go.Proofs.YtjlmljidmjnheaaW.PrintWords Go.Proofs.YtjlmljidmjnheaaW.PrintLast
set_option linter.unusedVariables false
open Q

/-- The place of a pair among those of n people. -/
def placeOf (n a b : Int) : Int := if a > b then b * (2 * n - b - 1) / 2 + a - b - 1 else a * (2 * n - a - 1) / 2 + b - a - 1

theorem place_all : ∀ n : Fin 9, ∀ a : Fin 9, ∀ b : Fin 9, a.val < n.val → b.val < n.val → a.val ≠ b.val →
    spec_ptAt.f (n.val : Int) (a.val : Int) (b.val : Int) = some (placeOf n.val a.val b.val) ∧ impl_place.f (n.val : Int) (a.val : Int) (b.val : Int) = some (placeOf n.val a.val b.val) ∧
      0 ≤ placeOf n.val a.val b.val ∧ placeOf n.val a.val b.val < (n.val : Int) * ((n.val : Int) - 1) / 2 := by decide +kernel

/-- Two different people of a painting. -/
def two (n c : Int) (l : List Int) (a b : Int) : Bool := painted n c l && ((decide (0 ≤ a) && decide (a ≤ n - 1)) && ((decide (0 ≤ b) && decide (b ≤ n - 1)) && (a != b)))

theorem painted_of {n c : Int} {l : List Int} (h : painted n c l = true) : 0 ≤ n ∧ n ≤ 8 ∧ 1 ≤ c ∧ c ≤ 3 ∧ (l.length : Int) = n * (n - 1) / 2 ∧ ∀ x ∈ l, 0 ≤ x ∧ x ≤ c - 1 := by
  unfold painted at h
  simp only [Bool.and_eq_true, decide_eq_true_eq, List.all_eq_true] at h
  obtain ⟨⟨h1, h2⟩, ⟨h3, h4⟩, h5, h6⟩ := h
  exact ⟨h1, h2, h3, h4, h5, h6⟩

theorem two_of {n c : Int} {l : List Int} {a b : Int} (h : two n c l a b = true) : painted n c l = true ∧ (0 ≤ a ∧ a ≤ n - 1) ∧ (0 ≤ b ∧ b ≤ n - 1) ∧ a ≠ b := by
  unfold two at h
  simp only [Bool.and_eq_true, decide_eq_true_eq, bne_iff_ne, ne_eq] at h
  obtain ⟨h0, h1, h2, h3⟩ := h
  exact ⟨h0, h1, h2, h3⟩

theorem place_two {n c : Int} {l : List Int} {a b : Int} (h : two n c l a b = true) :
    spec_ptAt.f n a b = some (placeOf n a b) ∧ impl_place.f n a b = some (placeOf n a b) ∧ 0 ≤ placeOf n a b ∧ placeOf n a b < (l.length : Int) := by
  obtain ⟨hp, h1, h2, h3⟩ := two_of h
  obtain ⟨p1, p2, _, _, p5, _⟩ := painted_of hp
  have q := place_all ⟨n.toNat, by omega⟩ ⟨a.toNat, by omega⟩ ⟨b.toNat, by omega⟩ (by show a.toNat < n.toNat; omega) (by show b.toNat < n.toNat; omega) (by show a.toNat ≠ b.toNat; omega)
  have en : ((n.toNat : Nat) : Int) = n := by omega
  have ea : ((a.toNat : Nat) : Int) = a := by omega
  have eb : ((b.toNat : Nat) : Int) = b := by omega
  simp only [en, ea, eb] at q
  rw [p5]
  exact q

theorem ptOf_eq {n c : Int} {l : List Int} {a b : Int} (h : two n c l a b = true) : spec_ptOf.f n c l a b = some (rd l (placeOf n a b)) := by
  obtain ⟨h1, _, h3, h4⟩ := place_two h
  unfold spec_ptOf.f
  rw [h1, Option.bind_some, if_pos h3, if_pos h4]

theorem of_eq {n c : Int} {l : List Int} {a b : Int} (h : two n c l a b = true) : impl_Painting_of.f n c l a b = some (rd l (placeOf n a b)) := by
  obtain ⟨_, h2, h3, h4⟩ := place_two h
  unfold impl_Painting_of.f
  rw [h2, Option.bind_some, if_pos h3, if_pos h4]

end Go.Proofs.Ytjlmljidmjnheaa.Plain

/- The party of a colour, on both sides. No condition but a painting. -/
namespace Go.Proofs.Ytjlmljidmjnheaa.Plain
open Go.RowKit Go.Proofs.YtjlmljidmjnheaaW.PrintWords Go.Proofs.YtjlmljidmjnheaaW.PrintLast
set_option linter.unusedVariables false
open Q

/-- Who is joined in a colour. -/
def colF (n : Nat) (l : List Int) (q : Int) : Nat → Nat → Bool := fun a b => decide (rd l (placeOf (n : Int) (a : Int) (b : Int)) = q)
theorem colF_comm (n : Nat) (l : List Int) (q : Int) (a b : Nat) : colF n l q a b = colF n l q b a := by
  unfold colF placeOf
  by_cases h : (a : Int) > (b : Int)
  · rw [if_pos h, if_neg (by omega)]
  · by_cases h2 : (b : Int) > (a : Int)
    · rw [if_neg h, if_pos h2]
    · have : a = b := by omega
      subst this; rfl

theorem two_in {n : Nat} {c : Int} {l : List Int} (h : painted (n : Int) c l = true) {a b : Nat} (ha : a < n) (hb : b < n) (hab : a ≠ b) : two (n : Int) c l (a : Int) (b : Int) = true := by
  unfold two
  rw [h]
  simp only [Bool.true_and, Bool.and_eq_true, decide_eq_true_eq, bne_iff_ne, ne_eq]
  refine ⟨⟨by omega, by omega⟩, ⟨by omega, by omega⟩, by omega⟩

theorem inColour_ev {n : Nat} {c : Int} {l : List Int} (hp : painted (n : Int) c l = true) (q : Int) : Ev (fun k => impl_Painting_inColour.f k (n : Int) c l q) (tabF n (seenG (colF n l q) n 0)) := by
  have hn : n ≤ 8 := by have := (painted_of hp).2.1; omega
  have hg := colF_comm n l q
  have q1 := ev_up (n := n) (loop := fun k i => impl_Painting_inColour.l0 k q (tabF n (seenG (colF n l q) i 0)) (n : Int) (i : Int) (n : Int) c l) (r := fun _ => tabF n (seenG (colF n l q) n 0))
    (Ev.step (f := fun _ => some (tabF n (seenG (colF n l q) n 0))) (fun k => by simp only [impl_Painting_inColour.l0]; rw [if_neg (by omega)]) (Ev.now _))
    (fun i hi ih => by
      have q2 := ev_up (n := i) (loop := fun k j => impl_Painting_inColour.l1 k q (tabF n (seenG (colF n l q) i j)) (i : Int) (n : Int) (i : Int) (i : Int) (j : Int) (n : Int) c l) (r := fun _ => tabF n (seenG (colF n l q) n 0))
        (by
          refine Ev.step (f := fun k => impl_Painting_inColour.l0 k q (tabF n (seenG (colF n l q) (i + 1) 0)) (n : Int) ((i + 1 : Nat) : Int) (n : Int) c l) (fun k => ?_) ih
          simp only [impl_Painting_inColour.l1]
          rw [if_neg (by omega), seenG_row, succ_cast hi (by omega)])
        (fun j hj ih2 => by
          have hjn : j < n := by omega
          have hof := of_eq (two_in hp hi hjn (by omega))
          refine Ev.step (f := fun k => impl_Painting_inColour.l1 k q (tabF n (seenG (colF n l q) i (j + 1))) (i : Int) (n : Int) (i : Int) (i : Int) ((j + 1 : Nat) : Int) (n : Int) c l) (fun k => ?_) ih2
          simp only [impl_Painting_inColour.l1]
          rw [if_pos (by omega), hof, Option.bind_some]
          by_cases c1 : rd l (placeOf (n : Int) (i : Int) (j : Int)) = q
          · rw [if_pos c1, put_eq (by omega) _ hi hjn (by omega), Option.bind_some, succ_cast hj (by omega), seenG_yes hg hj (decide_eq_true c1)]
          · rw [if_neg c1, succ_cast hj (by omega), seenG_no hg hj (decide_eq_false c1)]) 0 (Nat.zero_le _)
      refine Ev.step (f := fun k => impl_Painting_inColour.l1 k q (tabF n (seenG (colF n l q) i 0)) (i : Int) (n : Int) (i : Int) (i : Int) 0 (n : Int) c l) (fun k => ?_) (by simpa using q2)
      simp only [impl_Painting_inColour.l0]
      rw [if_pos (by omega)]) 0 (Nat.zero_le _)
  rw [seenG_zero] at q1
  refine Ev.congr (f := fun k => impl_Painting_inColour.l0 k q (tabF n (fun _ _ => false)) (n : Int) 0 (n : Int) c l) (fun k => ?_) q1
  unfold impl_Painting_inColour.f
  rw [if_pos (by omega), Int.toNat_natCast, if_pos (by omega), Option.bind_some, tabF_zero, tabF_length]
end Go.Proofs.Ytjlmljidmjnheaa.Plain

/- The law's own functions over parties, and the reference's test. No condition but lengths that fit. -/
namespace Go.Proofs.Ytjlmljidmjnheaa.Plain
open Go.RowKit Go.Proofs.YtjlmljidmjnheaaW.PrintWords Go.Proofs.YtjlmljidmjnheaaW.PrintLast
set_option linter.unusedVariables false
open Q

theorem eqPair_eq (x : Pr) : laws_eqPair.f x.f0 x.f1 x.f0 x.f1 = some true := by
  unfold laws_eqPair.f
  rw [if_pos rfl, if_pos rfl]

theorem eqPairS_ev (l : List Pr) (h : l.length ≤ 9223372036854775807) : Ev (fun k => laws_eqPairS.f k l l) true := by
  refine Ev.congr (f := fun k => laws_eqPairS.l0 k l l 0) (fun k => ?_) ?_
  · unfold laws_eqPairS.f
    rw [if_pos rfl]
  · exact ev_up (n := l.length) (loop := fun k i => laws_eqPairS.l0 k l l (i : Int)) (r := fun _ => true)
      (Ev.step (f := fun _ => some true) (fun k => by simp [laws_eqPairS.l0]) (Ev.now true))
      (fun i hi ih => Ev.step (f := fun k => laws_eqPairS.l0 k l l ((i + 1 : Nat) : Int)) (fun k => by
        simp only [laws_eqPairS.l0]
        rw [if_pos (by omega), if_pos (by omega), if_pos (by omega), rdP_at hi, eqPair_eq, Option.bind_some, if_pos rfl, succ_cast hi h]) ih) 0 (Nat.zero_le _)

theorem eqParty_ev (n : Int) (l : List Pr) (h : l.length ≤ 9223372036854775807) : Ev (fun k => laws_eqParty.f k n l n l) true := by
  refine Ev.congr (f := fun k => (laws_eqPairS.f k l l).bind fun t => if t = true then some true else some false) (fun k => ?_) ?_
  · unfold laws_eqParty.f
    rw [if_pos rfl]
  · exact Ev.bind (f := fun _ t => if t = true then some true else some false) (eqPairS_ev l h) (ev_some (fun _ => rfl))
end Go.Proofs.Ytjlmljidmjnheaa.Plain

/- The laws' marks: written into a list and found again. No condition but a length that fits. -/
namespace Go.Proofs.Ytjlmljidmjnheaa.Plain
open Go.RowKit Go.Proofs.YtjlmljidmjnheaaW.PrintWords Go.Proofs.YtjlmljidmjnheaaW.PrintLast
set_option linter.unusedVariables false
open Q

/-- The marks of n pairs from v on. -/
def marksP (v : Int) (n : Nat) : List Pr := (List.range n).map fun i : Nat => ⟨v + 2 * (i : Int), v + 2 * (i : Int) + 1⟩
/-- The marks of n numbers from v on. -/
def marksI (v : Int) (n : Nat) : List Int := (List.range n).map fun i : Nat => v + (i : Int)
theorem marksP_length (v : Int) (n : Nat) : (marksP v n).length = n := by simp [marksP]
theorem marksI_length (v : Int) (n : Nat) : (marksI v n).length = n := by simp [marksI]
theorem marksP_get {v : Int} {n i : Nat} (h : i < (marksP v n).length) : (marksP v n)[i] = ⟨v + 2 * (i : Int), v + 2 * (i : Int) + 1⟩ := by simp [marksP]
theorem marksI_get {v : Int} {n i : Nat} (h : i < (marksI v n).length) : (marksI v n)[i] = v + (i : Int) := by simp [marksI]

theorem marksP_step (v : Int) (l : List Pr) {i : Nat} (hi : i < l.length) (x : Pr) (hx : x = ⟨v + 2 * (i : Int), v + 2 * (i : Int) + 1⟩) : (marksP v i ++ l.drop i).set i x = marksP v (i + 1) ++ l.drop (i + 1) := by
  apply List.ext_getElem
  · simp [marksP_length]; omega
  · intro j h1 h2
    rw [List.getElem_set]
    by_cases e : i = j
    · subst e
      rw [if_pos rfl, List.getElem_append_left (by rw [marksP_length]; omega), marksP_get, hx]
    · rw [if_neg e]
      by_cases c : j < i
      · rw [List.getElem_append_left (by rw [marksP_length]; omega), List.getElem_append_left (by rw [marksP_length]; omega), marksP_get, marksP_get]
      · rw [List.getElem_append_right (by rw [marksP_length]; omega), List.getElem_append_right (by rw [marksP_length]; omega), List.getElem_drop, List.getElem_drop]
        congr 1
        rw [marksP_length, marksP_length]
        omega
theorem marksI_step (v : Int) (l : List Int) {i : Nat} (hi : i < l.length) : (marksI v i ++ l.drop i).set i (v + (i : Int)) = marksI v (i + 1) ++ l.drop (i + 1) := by
  apply List.ext_getElem
  · simp [marksI_length]; omega
  · intro j h1 h2
    rw [List.getElem_set]
    by_cases e : i = j
    · subst e
      rw [if_pos rfl, List.getElem_append_left (by rw [marksI_length]; omega), marksI_get]
    · rw [if_neg e]
      by_cases c : j < i
      · rw [List.getElem_append_left (by rw [marksI_length]; omega), List.getElem_append_left (by rw [marksI_length]; omega), marksI_get, marksI_get]
      · rw [List.getElem_append_right (by rw [marksI_length]; omega), List.getElem_append_right (by rw [marksI_length]; omega), List.getElem_drop, List.getElem_drop]
        congr 1
        rw [marksI_length, marksI_length]
        omega

theorem markPairS_ev (l : List Pr) (v : Int) (h : l.length ≤ 1152921504606846976) (h0 : 0 ≤ v) (h1 : v ≤ 1000) : Ev (fun k => laws_markPairS.f k l v) (v + 2 * (l.length : Int), marksP v l.length) := by
  have q := ev_up (n := l.length) (loop := fun k i => laws_markPairS.l0 k (marksP v i ++ l.drop i) (v + 2 * (i : Int)) (i : Int)) (r := fun _ => (v + 2 * (l.length : Int), marksP v l.length))
    (by
      refine Ev.step (f := fun _ => some (v + 2 * (l.length : Int), marksP v l.length)) (fun k => ?_) (Ev.now _)
      simp only [laws_markPairS.l0]
      rw [List.drop_length, List.append_nil, if_neg (by rw [marksP_length]; omega)])
    (fun i hi ih => by
      have hlen : (marksP v i ++ l.drop i).length = l.length := by rw [List.length_append, marksP_length, List.length_drop]; omega
      have w1 : wrap64 (v + 2 * (i : Int) + 1) = v + 2 * (i : Int) + 1 := wrap_id (by omega) (by omega)
      have w2 : wrap64 (v + 2 * (i : Int) + 1 + 1) = v + 2 * ((i + 1 : Nat) : Int) := by rw [wrap_id (by omega) (by omega)]; omega
      refine Ev.step (f := fun k => laws_markPairS.l0 k (marksP v (i + 1) ++ l.drop (i + 1)) (v + 2 * ((i + 1 : Nat) : Int)) ((i + 1 : Nat) : Int)) (fun k => ?_) ih
      simp only [laws_markPairS.l0]
      rw [if_pos (by rw [hlen]; omega), if_pos (by omega), Option.bind_some, w1, w2, succ_cast hi (by omega), Int.toNat_natCast, List.set_set]
      rw [marksP_step v l hi _ (by rw [rdP_at (by rw [List.length_set, hlen]; exact hi), List.getElem_set_self])]) 0 (Nat.zero_le _)
  have e : marksP v 0 ++ l.drop 0 = l := by simp [marksP]
  rw [e] at q
  simpa [laws_markPairS.f] using q

theorem heldPairS_ev (n : Nat) (v : Int) (h : n ≤ 1152921504606846976) (h0 : 0 ≤ v) (h1 : v ≤ 1000) : Ev (fun k => laws_heldPairS.f k (marksP v n) v) (v + 2 * (n : Int)) := by
  have hl := marksP_length v n
  have q := ev_up (n := n) (loop := fun k i => laws_heldPairS.l0 k (marksP v n) (v + 2 * (i : Int)) (i : Int)) (r := fun _ => v + 2 * (n : Int))
    (Ev.step (f := fun _ => some (v + 2 * (n : Int))) (fun k => by simp only [laws_heldPairS.l0]; rw [if_neg (by rw [hl]; omega)]) (Ev.now _))
    (fun i hi ih => by
      have w1 : wrap64 (v + 2 * (i : Int) + 1) = v + 2 * (i : Int) + 1 := wrap_id (by omega) (by omega)
      have w2 : wrap64 (v + 2 * (i : Int) + 1 + 1) = v + 2 * ((i + 1 : Nat) : Int) := by rw [wrap_id (by omega) (by omega)]; omega
      refine Ev.step (f := fun k => laws_heldPairS.l0 k (marksP v n) (v + 2 * ((i + 1 : Nat) : Int)) ((i + 1 : Nat) : Int)) (fun k => ?_) ih
      simp only [laws_heldPairS.l0]
      rw [if_pos (by rw [hl]; omega), if_pos (by omega), rdP_at (by rw [hl]; exact hi), marksP_get, if_pos rfl, w1, if_pos rfl, w2, succ_cast hi (by omega)]) 0 (Nat.zero_le _)
  simpa [laws_heldPairS.f] using q

theorem markIntS_ev (l : List Int) (v : Int) (h : l.length ≤ 1152921504606846976) (h0 : 0 ≤ v) (h1 : v ≤ 1000) : Ev (fun k => laws_markIntS.f k l v) (v + (l.length : Int), marksI v l.length) := by
  have q := ev_up (n := l.length) (loop := fun k i => laws_markIntS.l0 k (marksI v i ++ l.drop i) (v + (i : Int)) (i : Int)) (r := fun _ => (v + (l.length : Int), marksI v l.length))
    (by
      refine Ev.step (f := fun _ => some (v + (l.length : Int), marksI v l.length)) (fun k => ?_) (Ev.now _)
      simp only [laws_markIntS.l0]
      rw [List.drop_length, List.append_nil, if_neg (by rw [marksI_length]; omega)])
    (fun i hi ih => by
      have hlen : (marksI v i ++ l.drop i).length = l.length := by rw [List.length_append, marksI_length, List.length_drop]; omega
      have w1 : wrap64 (v + (i : Int) + 1) = v + ((i + 1 : Nat) : Int) := by rw [wrap_id (by omega) (by omega)]; omega
      refine Ev.step (f := fun k => laws_markIntS.l0 k (marksI v (i + 1) ++ l.drop (i + 1)) (v + ((i + 1 : Nat) : Int)) ((i + 1 : Nat) : Int)) (fun k => ?_) ih
      simp only [laws_markIntS.l0]
      rw [if_pos (by rw [hlen]; omega), if_pos (by omega), w1, succ_cast hi (by omega), Int.toNat_natCast, marksI_step v l hi]) 0 (Nat.zero_le _)
  have e : marksI v 0 ++ l.drop 0 = l := by simp [marksI]
  rw [e] at q
  simpa [laws_markIntS.f] using q

theorem markParty_ev (n : Int) (l : List Pr) (h : l.length ≤ 1152921504606846976) : Ev (fun k => laws_markParty.f k n l 1) (1 + 2 * (l.length : Int), marksP 1 l.length) := by
  unfold laws_markParty.f
  exact Ev.bind (f := fun _ bt => some (bt.1, bt.2)) (markPairS_ev l 1 h (by omega) (by omega)) (Ev.now _)

theorem markPainting_ev (n c : Int) (l : List Int) (h : l.length ≤ 1152921504606846976) : Ev (fun k => laws_markPainting.f k n c l 1) (1 + (l.length : Int), marksI 1 l.length) := by
  unfold laws_markPainting.f
  exact Ev.bind (f := fun _ bt => some (bt.1, bt.2)) (markIntS_ev l 1 h (by omega) (by omega)) (Ev.now _)

theorem heldParty_ev (n : Int) (m : Nat) (h : m ≤ 1152921504606846976) : Ev (fun k => laws_heldParty.f k n (marksP 1 m) 1) (1 + 2 * (m : Int)) := by
  unfold laws_heldParty.f
  refine Ev.bind (heldPairS_ev m 1 h (by omega) (by omega)) ?_
  exact ev_if (fun q => by omega) (fun _ => Ev.now _)
end Go.Proofs.Ytjlmljidmjnheaa.Plain
/- The program's PartyOfColour returns what the reference's returns, for all arguments. No condition. -/
namespace Go.Proofs.Ytjlmljidmjnheaa.Pure
open Go.RowKit Go.Proofs.YtjlmljidmjnheaaW.PrintWords Go.Proofs.YtjlmljidmjnheaaW.PrintLast
set_option linter.unusedVariables false
open Q Plain

/-- Is there such a party. -/
def hued (n c : Int) (l : List Int) (q : Int) : Bool := painted n c l && (decide (0 ≤ q) && decide (q ≤ wrap64 (c - 1)))
/-- What both sides tell. -/
def hueParty (n c : Int) (l : List Int) (q : Int) : Int × List Pr × Bool := if hued n c l q = true then (n, pairsF n.toNat (colF n.toNat l q), true) else (0, [], false)

theorem spec_rows {n : Nat} {c : Int} {l : List Int} (hp : painted (n : Int) c l = true) (q : Int) :
    Ev (fun k => spec_PartyOfColour.l0 k q 0 (n : Int) c l (n : Int) []) ((n : Int), pairsF n (colF n l q), true) := by
  have hn : n ≤ 8 := by have := (painted_of hp).2.1; omega
  have outer : ∀ d a acc, a ≤ n → n - a = d → List.length acc ≤ 12 * a → Ev (fun k => spec_PartyOfColour.l0 k q (a : Int) (n : Int) c l (n : Int) acc) ((n : Int), acc ++ restFrom n (colF n l q) a, true) := by
    intro d
    induction d with
    | zero =>
      intro a acc ha hd _
      have e : a = n := by omega
      subst e
      rw [restFrom_end, List.append_nil]
      refine Ev.step (f := fun _ => some ((a : Int), acc, true)) (fun k => ?_) (Ev.now _)
      simp only [spec_PartyOfColour.l0]
      rw [if_neg (by omega)]
    | succ d ihd =>
      intro a acc ha hd hacc
      have han : a < n := by omega
      have inner : ∀ e b acc, a < b → b ≤ n → n - b = e → List.length acc ≤ 12 * a + b - 1 → Ev (fun k => spec_PartyOfColour.l1 k q (a : Int) (b : Int) (n : Int) c l (n : Int) acc) ((n : Int), acc ++ (rowFrom n (colF n l q a) a b ++ restFrom n (colF n l q) (a + 1)), true) := by
        intro e
        induction e with
        | zero =>
          intro b acc hab hb he hacc
          have e : b = n := by omega
          rw [rowFrom_end _ _ _ _ (by omega), List.nil_append]
          refine Ev.step (f := fun k => spec_PartyOfColour.l0 k q ((a + 1 : Nat) : Int) (n : Int) c l (n : Int) acc) (fun k => ?_) (ihd (a + 1) acc (by omega) (by omega) (by omega))
          simp only [spec_PartyOfColour.l1]
          rw [if_neg (by omega), succ_cast han (by omega)]
        | succ e ihe =>
          intro b acc hab hb he hacc
          have hbn : b < n := by omega
          have hof := ptOf_eq (two_in hp han hbn (by omega))
          rw [rowFrom_step hbn]
          by_cases c1 : rd l (placeOf (n : Int) (a : Int) (b : Int)) = q
          · have c2 : colF n l q a b = true := decide_eq_true c1
            refine Ev.step (f := fun k => spec_PartyOfColour.l1 k q (a : Int) ((b + 1 : Nat) : Int) (n : Int) c l (n : Int) (acc ++ [⟨(a : Int), (b : Int)⟩])) (fun k => ?_) (by
              have := ihe (b + 1) (acc ++ [⟨(a : Int), (b : Int)⟩]) (by omega) (by omega) (by omega) (by simp; omega)
              rw [if_pos c2]
              rw [List.append_assoc] at this ⊢
              exact this)
            simp only [spec_PartyOfColour.l1]
            rw [if_pos (by omega), hof, Option.bind_some, if_pos c1, if_pos (by omega), succ_cast hbn (by omega)]
          · have c2 : ¬ colF n l q a b = true := by unfold colF; simpa using c1
            refine Ev.step (f := fun k => spec_PartyOfColour.l1 k q (a : Int) ((b + 1 : Nat) : Int) (n : Int) c l (n : Int) acc) (fun k => ?_) (by
              have := ihe (b + 1) acc (by omega) (by omega) (by omega) (by omega)
              rw [if_neg c2, List.nil_append]
              exact this)
            simp only [spec_PartyOfColour.l1]
            rw [if_pos (by omega), hof, Option.bind_some, if_neg c1, succ_cast hbn (by omega)]
      rw [restFrom_step han]
      refine Ev.step (f := fun k => spec_PartyOfColour.l1 k q (a : Int) ((a + 1 : Nat) : Int) (n : Int) c l (n : Int) acc) (fun k => ?_) (inner (n - (a + 1)) (a + 1) acc (by omega) (by omega) rfl (by omega))
      simp only [spec_PartyOfColour.l0]
      rw [if_pos (by omega), succ_cast han (by omega)]
  exact outer n 0 [] (Nat.zero_le _) rfl (by simp)

theorem spec_ev (n c : Int) (l : List Int) (q : Int) (h : l.length ≤ 9223372036854775807) : Ev (fun k => spec_PartyOfColour.f k n c l q) (hueParty n c l q) := by
  unfold spec_PartyOfColour.f
  refine Ev.bind (ptGood_ev n c l h) ?_
  have bad : hued n c l q ≠ true → Ev (fun k => spec_PartyOfColour.j0 k q true n c l) (hueParty n c l q) := by
    intro hb
    unfold hueParty
    rw [if_neg hb]
    refine Ev.step (f := fun _ => some (0, [], false)) (fun k => ?_) (Ev.now _)
    simp only [spec_PartyOfColour.j0]
    rfl
  refine ev_if (fun b => ?_) (fun b => bad (fun z => b (by unfold hued at z; simp only [Bool.and_eq_true] at z; exact z.1)))
  refine ev_bind0 (l1In_eq q 0 _) ?_
  by_cases b2 : (decide (0 ≤ q) && decide (q ≤ wrap64 (c - 1))) = true
  · have ok : hued n c l q = true := by unfold hued; rw [b, b2]; rfl
    rw [b2]
    unfold hueParty
    rw [if_pos ok]
    obtain ⟨h0, h8, _⟩ := painted_of b
    have e : n = ((n.toNat : Nat) : Int) := by omega
    refine Ev.step (f := fun k => spec_PartyOfColour.l0 k q 0 n c l n []) (fun k => ?_) ?_
    · simp only [spec_PartyOfColour.j0]
      rfl
    · have := spec_rows (n := n.toNat) (c := c) (l := l) (by rw [← e]; exact b) q
      rw [← e] at this
      exact this
  · have b2' : (decide (0 ≤ q) && decide (q ≤ wrap64 (c - 1))) = false := by simpa using b2
    rw [b2']
    exact bad (fun z => b2 (by unfold hued at z; simp only [Bool.and_eq_true] at z ⊢; exact z.2))

theorem impl_ev (n c : Int) (l : List Int) (q : Int) (h : l.length ≤ 9223372036854775807) : Ev (fun k => impl_PartyOfColour.f k n c l q) (hueParty n c l q) := by
  unfold impl_PartyOfColour.f
  refine Ev.bind (isPainting_ev n c l h) ?_
  have bad : hued n c l q ≠ true → Ev (fun k => impl_PartyOfColour.j0 k q true n c l) (hueParty n c l q) := by
    intro hb
    unfold hueParty
    rw [if_neg hb]
    refine Ev.step (f := fun _ => some (0, [], false)) (fun k => ?_) (Ev.now _)
    simp only [impl_PartyOfColour.j0]
    rfl
  refine ev_if (fun b => ?_) (fun b => bad (fun z => b (by unfold hued at z; simp only [Bool.and_eq_true] at z; exact z.1)))
  have hc : impl_isColour.f n c l q = some (decide (0 ≤ q) && decide (q ≤ wrap64 (c - 1))) := by unfold impl_isColour.f; rw [within_eq]; rfl
  refine ev_bind0 hc ?_
  by_cases b2 : (decide (0 ≤ q) && decide (q ≤ wrap64 (c - 1))) = true
  · have ok : hued n c l q = true := by unfold hued; rw [b, b2]; rfl
    rw [b2]
    unfold hueParty
    rw [if_pos ok]
    obtain ⟨h0, h8, _⟩ := painted_of b
    have e : n = ((n.toNat : Nat) : Int) := by omega
    refine Ev.step (f := fun k => (impl_Painting_inColour.f k n c l q).bind fun t => (impl_table_party.f k t).bind fun bt => some (bt.1, bt.2, true)) (fun k => ?_) ?_
    · simp only [impl_PartyOfColour.j0]
      rfl
    · have hi := inColour_ev (n := n.toNat) (c := c) (l := l) (by rw [← e]; exact b) q
      rw [← e] at hi
      refine Ev.bind hi ?_
      refine Ev.bind (party_ev (n := n.toNat) (by omega) _) ?_
      rw [seenG_pairs, ← e]
      exact Ev.now _
  · have b2' : (decide (0 ≤ q) && decide (q ≤ wrap64 (c - 1))) = false := by simpa using b2
    rw [b2']
    exact bad (fun z => b2 (by unfold hued at z; simp only [Bool.and_eq_true] at z ⊢; exact z.2))

theorem hue_len (n c : Int) (l : List Int) (q : Int) : (hueParty n c l q).2.1.length ≤ 1000 := by
  unfold hueParty
  by_cases h : hued n c l q = true
  · rw [if_pos h]
    have hp : painted n c l = true := by unfold hued at h; simp only [Bool.and_eq_true] at h; exact h.1
    exact pairsF_length (by have := (painted_of hp).2.1; omega) _
  · rw [if_neg h]; simp

theorem FnExactPartyOfColour : laws_FnExactPartyOfColour.Pure := by
  intro n c l q _ _ hl _ _
  refine Ev.rounds (g := fun k => laws_FnExactPartyOfColour.f k n c l q) ?_
  unfold laws_FnExactPartyOfColour.f
  refine ev_bind0 (szPainting_eq n c l 1048576 (by omega) (by omega) hl) ?_
  refine ev_if (fun _ => Ev.now _) (fun hb => ?_)
  have hs : l.length ≤ 1048576 := by
    by_cases h : (1048576 : Int) < (l.length : Int)
    · rw [if_pos h] at hb; omega
    · omega
  have hT := toPainting_ev n c l (by omega)
  have hS := spec_ev n c l q (by omega)
  have hI := impl_ev n c l q (by omega)
  have hp := hue_len n c l q
  generalize hueParty n c l q = z at hS hI hp
  obtain ⟨p, ps, ok⟩ := z
  replace hp : ps.length ≤ 1000 := hp
  have hE := eqParty_ev p ps (by omega)
  have hEL := eqPainting_ev n c l (by omega)
  refine Ev.bind hT ?_
  refine Ev.bind hS ?_
  refine Ev.bind hT ?_
  refine Ev.bind hI ?_
  refine Ev.bind hE ?_
  refine ev_if (fun _ => ?_) (fun h => absurd rfl h)
  have hneq : (ok != ok) = false := by simp
  show Ev (fun k => laws_FnExactPartyOfColour.j0 k q ok ok (ok != ok) n c l p ps n c l p ps) true
  rw [hneq]
  have j2 : Ev (fun k => laws_FnExactPartyOfColour.j2 k (1 + 2 * (ps.length : Int)) false p (marksP 1 ps.length)) true := by
    refine Ev.step (f := fun k => (laws_heldParty.f k p (marksP 1 ps.length) 1).bind fun t => if t < 0 then some false else if t = 1 + 2 * (ps.length : Int) then some true else some false) (fun k => ?_) ?_
    · simp only [laws_FnExactPartyOfColour.j2]
      rfl
    · refine Ev.bind (heldParty_ev p _ (by omega)) ?_
      exact ev_if (fun q => by omega) (fun _ => ev_if (fun _ => Ev.now _) (fun h => absurd rfl h))
  have j1 : Ev (fun k => laws_FnExactPartyOfColour.j1 k q ok false n c l p ps p ps) true := by
    refine Ev.step (f := fun k => (laws_markParty.f k p ps 1).bind fun bt795 => ((laws_heldParty.f k p bt795.2 1).bind fun t797 => (if t797 < 0 then (some false) else (if t797 = bt795.1 then ((laws_toPainting.f k n c l).bind fun bt798 => ((impl_PartyOfColour.f k bt798.1 bt798.2.1 bt798.2.2 q).bind fun bt802 => ((laws_eqParty.f k bt802.1 bt802.2.1 p ps).bind fun t808 => (if t808 = true then (laws_FnExactPartyOfColour.j2 k bt795.1 (bt802.2.2 != ok) p bt795.2) else (laws_FnExactPartyOfColour.j2 k bt795.1 true p bt795.2))))) else (some false))))) (fun k => ?_) ?_
    · simp only [laws_FnExactPartyOfColour.j1]
      rfl
    · refine Ev.bind (markParty_ev p ps (by omega)) ?_
      refine Ev.bind (heldParty_ev p _ (by omega)) ?_
      refine ev_if (fun q => by omega) (fun _ => ev_if (fun _ => ?_) (fun h => absurd rfl h))
      refine Ev.bind hT ?_
      refine Ev.bind hI ?_
      refine Ev.bind hE ?_
      refine ev_if (fun _ => ?_) (fun h => absurd rfl h)
      show Ev (fun k => laws_FnExactPartyOfColour.j2 k (1 + 2 * (ps.length : Int)) (ok != ok) p (marksP 1 ps.length)) true
      rw [hneq]
      exact j2
  refine Ev.step (f := fun k => (laws_toPainting.f k n c l).bind fun bt787 => ((laws_eqPainting.f k n c l bt787.1 bt787.2.1 bt787.2.2).bind fun t791 => (if t791 = true then ((laws_markPainting.f k n c l 1).bind fun bt792 => (if bt792.1 < 0 then (laws_FnExactPartyOfColour.j1 k q ok true n c l p ps p ps) else ((laws_eqParty.f k p ps p ps).bind fun t794 => (if t794 = true then (laws_FnExactPartyOfColour.j1 k q ok (ok != ok) n c l p ps p ps) else (laws_FnExactPartyOfColour.j1 k q ok true n c l p ps p ps))))) else (some false)))) (fun k => ?_) ?_
  · simp only [laws_FnExactPartyOfColour.j0]
    rfl
  · refine Ev.bind hT ?_
    refine Ev.bind hEL ?_
    refine ev_if (fun _ => ?_) (fun h => absurd rfl h)
    refine Ev.bind (markPainting_ev n c l (by omega)) ?_
    refine ev_if (fun (q : 1 + (l.length : Int) < 0) => by omega) (fun _ => ?_)
    refine Ev.bind hE ?_
    refine ev_if (fun _ => ?_) (fun h => absurd rfl h)
    rw [hneq]
    exact j1
end Go.Proofs.Ytjlmljidmjnheaa.Pure
