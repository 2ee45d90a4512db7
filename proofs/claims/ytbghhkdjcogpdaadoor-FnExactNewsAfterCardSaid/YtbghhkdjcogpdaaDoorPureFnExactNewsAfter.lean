import Derived.Test.YtbghhkdjcogpdaaDoorQ0
import Derived.Test.YtbghhkdjcogpdaaDoorQ8
import Derived.Test.YtbghhkdjcogpdaaDoorQ21
import Derived.Test.YtbghhkdjcogpdaaDoorQ26
import Derived.Test.YtbghhkdjcogpdaaDoorQ27
import Derived.Test.YtbghhkdjcogpdaaDoorSayFnExactNewsAfter
/- Plain lemmas over rounds, lists and whole numbers, for the pure statements of this seat. No condition. -/
namespace Go.Proofs.YtbghhkdjcogpdaaDoor.Plain
open Go.RowKit Go.Proofs.YtbghhkdjcogpdaaDoorW.PrintWords Go.Proofs.YtbghhkdjcogpdaaDoorW.PrintLast
set_option linter.unusedVariables false

theorem wrap_id {x : Int} (h0 : -9223372036854775808 ≤ x) (h1 : x ≤ 9223372036854775807) : wrap64 x = x := by
  unfold wrap64
  omega

theorem rd_at {l : List Int} {i : Nat} (h : i < l.length) : rd l (i : Int) = l[i] := by
  simp [rd, List.getD, h]

theorem ev_bind0 {α β : Type} {g : Option α} {f : Nat → α → Option β} {a : α} {r : β} (h : g = some a) (k : Ev (fun n => f n a) r) : Ev (fun n => g.bind (f n)) r := by
  obtain ⟨K, hK⟩ := k
  refine ⟨K, fun n hn => ?_⟩
  show g.bind (f n) = some r
  rw [h]
  exact hK n hn

theorem ev_if {α : Type} {c : Prop} [Decidable c] {f g : Nat → Option α} {r : α} (hf : c → Ev f r) (hg : ¬ c → Ev g r) : Ev (fun n => if c then f n else g n) r := by
  by_cases h : c
  · obtain ⟨K, hK⟩ := hf h
    exact ⟨K, fun n hn => (if_pos h).trans (hK n hn)⟩
  · obtain ⟨K, hK⟩ := hg h
    exact ⟨K, fun n hn => (if_neg h).trans (hK n hn)⟩

/-- A loop over an index, from any index on, in one shape. -/
theorem ev_up {α : Type} {n : Nat} {loop : Nat → Nat → Option α} {r : Nat → α} (hend : Ev (fun k => loop k n) (r n)) (hstep : ∀ i, i < n → (Ev (fun k => loop k (i + 1)) (r (i + 1)) → Ev (fun k => loop k i) (r i))) :
    ∀ i, i ≤ n → Ev (fun k => loop k i) (r i) := by
  intro i hi
  have : ∀ d i, i ≤ n → n - i = d → Ev (fun k => loop k i) (r i) := by
    intro d
    induction d with
    | zero =>
      intro i hi hd
      have e : i = n := by omega
      rw [e]; exact hend
    | succ d ih =>
      intro i hi hd
      exact hstep i (by omega) (ih (i + 1) (by omega) (by omega))
  exact this (n - i) i hi rfl
theorem succ_cast {i n : Nat} (h : i < n) (hn : n ≤ 9223372036854775807) : wrap64 ((i : Int) + 1) = ((i + 1 : Nat) : Int) := by
  rw [wrap_id (by omega) (by omega)]; rfl
end Go.Proofs.YtbghhkdjcogpdaaDoor.Plain

/- The law's own functions over lists of whole numbers: copies, equality, bounds. No condition but lengths that fit. -/
namespace Go.Proofs.YtbghhkdjcogpdaaDoor.Plain
open Go.RowKit Go.Proofs.YtbghhkdjcogpdaaDoorW.PrintWords Go.Proofs.YtbghhkdjcogpdaaDoorW.PrintLast
set_option linter.unusedVariables false
open Q

theorem eqIntS_ev (l : List Int) (h : l.length ≤ 9223372036854775807) : Ev (fun k => laws_eqIntS.f k l l) true := by
  refine Ev.congr (f := fun k => laws_eqIntS.l0 k l l 0) (fun k => ?_) ?_
  · unfold laws_eqIntS.f
    rw [if_pos rfl]
  · exact ev_up (n := l.length) (loop := fun k i => laws_eqIntS.l0 k l l (i : Int)) (r := fun _ => true)
      (Ev.step (f := fun _ => some true) (fun k => by simp [laws_eqIntS.l0]) (Ev.now true))
      (fun i hi ih => Ev.step (f := fun k => laws_eqIntS.l0 k l l ((i + 1 : Nat) : Int)) (fun k => by
        simp only [laws_eqIntS.l0]
        rw [if_pos (by omega), if_pos (by omega), if_pos (by omega), if_pos trivial, succ_cast hi h]) ih) 0 (Nat.zero_le _)

theorem l1In_eq (a b c : Int) : spec_l1In.f a b c = some (decide (b ≤ a) && decide (a ≤ c)) := by
  unfold spec_l1In.f
  by_cases h : b ≤ a <;> simp [h]

theorem within_eq (a b c : Int) : impl_within.f a b c = some (decide (b ≤ a) && decide (a ≤ c)) := by
  unfold impl_within.f
  by_cases h : b ≤ a <;> simp [h]

end Go.Proofs.YtbghhkdjcogpdaaDoor.Plain

/- Is a number in a list: the reference's way. No condition but a length that fits. -/
namespace Go.Proofs.YtbghhkdjcogpdaaDoor.Plain
open Go.RowKit Go.Proofs.YtbghhkdjcogpdaaDoorW.PrintWords Go.Proofs.YtbghhkdjcogpdaaDoorW.PrintLast
set_option linter.unusedVariables false
open Q

theorem l1Has_ev (l : List Int) (a : Int) (h : l.length ≤ 9223372036854775807) : Ev (fun k => spec_l1Has.f k l a) (l.contains a) := by
  have q := ev_up (n := l.length) (loop := fun k i => spec_l1Has.l0 k a l (l.length : Int) (i : Int)) (r := fun i => (l.drop i).contains a)
    (Ev.step (f := fun _ => some false) (fun k => by simp [spec_l1Has.l0]) (by simpa using Ev.now false))
    (fun i hi ih => by
      rw [List.drop_eq_getElem_cons hi, List.contains_cons]
      by_cases e : l[i] = a
      · refine Ev.step (f := fun _ => some true) (fun k => ?_) (by rw [e]; simpa using Ev.now true)
        simp only [spec_l1Has.l0]
        rw [if_pos (by omega), if_pos (by omega), if_pos (by omega), rd_at hi, if_pos e]
      · refine Ev.step (f := fun k => spec_l1Has.l0 k a l (l.length : Int) ((i + 1 : Nat) : Int)) (fun k => ?_) ?_
        · simp only [spec_l1Has.l0]
          rw [if_pos (by omega), if_pos (by omega), if_pos (by omega), rd_at hi, if_neg e, succ_cast hi h]
        · have : (a == l[i]) = false := by simpa using fun q => e q.symm
          rw [this, Bool.false_or]; exact ih) 0 (Nat.zero_le _)
  simpa [spec_l1Has.f] using q
end Go.Proofs.YtbghhkdjcogpdaaDoor.Plain

/- Parties: both sides' tests, and the law's own functions over parties. No condition but lengths that fit. -/
namespace Go.Proofs.YtbghhkdjcogpdaaDoor.Plain
open Go.RowKit Go.Proofs.YtbghhkdjcogpdaaDoorW.PrintWords Go.Proofs.YtbghhkdjcogpdaaDoorW.PrintLast
set_option linter.unusedVariables false
open Q

abbrev Pr := S47
abbrev rdP (l : List Pr) (i : Int) : Pr := rd_T47 l i

theorem rdP_at {l : List Pr} {i : Nat} (h : i < l.length) : rd_T47 l (i : Int) = l[i] := by
  simp [rd_T47, List.getD, h]

def pairOk (n : Int) (x : Pr) : Bool := decide (0 ≤ x.f0) && (decide (x.f0 < x.f1) && decide (x.f1 < n))
def lessB (x y : Pr) : Bool := decide (x.f0 < y.f0) || (decide (x.f0 = y.f0) && decide (x.f1 < y.f1))
/-- The pair at an index is right, and comes behind the one before. -/
def okAt (n : Int) (l : List Pr) (i : Nat) : Bool := pairOk n (rdP l i) && (decide (i = 0) || lessB (rdP l ((i : Int) - 1)) (rdP l i))
def party (n : Int) (l : List Pr) : Bool := (decide (0 ≤ n) && decide (n ≤ 12)) && (List.range l.length).all (okAt n l)

/-! What a party is, in words of numbers. -/
end Go.Proofs.YtbghhkdjcogpdaaDoor.Plain

/- A party as a relation between people; sets of people as numbers; how many hold. Plain lemmas. No condition. -/
namespace Go.Proofs.YtbghhkdjcogpdaaDoor.Plain
open Go.RowKit Go.Proofs.YtbghhkdjcogpdaaDoorW.PrintWords Go.Proofs.YtbghhkdjcogpdaaDoorW.PrintLast
set_option linter.unusedVariables false
open Q

/-- All pairs are right for n people. -/
def Right (n : Nat) (l : List Pr) : Prop := ∀ x ∈ l, 0 ≤ x.f0 ∧ x.f0 < x.f1 ∧ x.f1 < (n : Int)
theorem Right.take {n : Nat} {l : List Pr} (h : Right n l) (i : Nat) : Right n (l.take i) := fun x hx => h x (List.mem_of_mem_take hx)

/-! Sets of people as numbers. -/
def maskOf (f : Nat → Bool) : Nat → Nat
  | 0 => 0
  | n + 1 => maskOf f n + (if f n = true then 2 ^ n else 0)

theorem maskOf_lt (f : Nat → Bool) : ∀ n, maskOf f n < 2 ^ n
  | 0 => by simp [maskOf]
  | n + 1 => by
    have := maskOf_lt f n
    unfold maskOf
    rw [Nat.pow_succ]
    split <;> omega

theorem maskOf_bit (f : Nat → Bool) : ∀ n b, (maskOf f n).testBit b = (decide (b < n) && f b)
  | 0, b => by simp [maskOf]
  | n + 1, b => by
    have ih := maskOf_bit f n b
    have hlt := maskOf_lt f n
    unfold maskOf
    by_cases h : f n = true
    · rw [if_pos h, Nat.add_comm]
      rcases Nat.lt_trichotomy b n with hb | rfl | hb
      · rw [Nat.testBit_two_pow_add_gt hb, ih]
        simp [hb, Nat.lt_succ_of_lt hb]
      · rw [Nat.testBit_two_pow_add_eq, Nat.testBit_lt_two_pow hlt]
        simp [h]
      · have h1 : 2 ^ (n + 1) ≤ 2 ^ b := Nat.pow_le_pow_right (by omega) (by omega)
        rw [Nat.pow_succ] at h1
        rw [Nat.testBit_lt_two_pow (by omega)]
        simp; omega
    · rw [if_neg h, Nat.add_zero, ih]
      by_cases e : b = n
      · subst e
        simp [Bool.eq_false_iff.mpr h]
      · have : decide (b < n + 1) = decide (b < n) := by
          apply decide_eq_decide.mpr; omega
        rw [this]

theorem maskOf_congr {f g : Nat → Bool} : ∀ {n}, (∀ b, b < n → f b = g b) → maskOf f n = maskOf g n
  | 0, _ => rfl
  | n + 1, h => by
    unfold maskOf
    rw [maskOf_congr (n := n) (fun b hb => h b (by omega)), h n (by omega)]

theorem mask_or (f g : Nat → Bool) (n : Nat) : maskOf f n ||| maskOf g n = maskOf (fun b => f b || g b) n := by
  apply Nat.eq_of_testBit_eq
  intro b
  rw [Nat.testBit_or, maskOf_bit, maskOf_bit, maskOf_bit]
  cases decide (b < n) <;> simp
theorem mask_one {n b : Nat} (h : b < n) : (2 ^ b : Nat) = maskOf (fun c => decide (c = b)) n := by
  apply Nat.eq_of_testBit_eq
  intro c
  rw [Nat.testBit_two_pow, maskOf_bit]
  by_cases e : b = c
  · subst e; simp [h]
  · have : ¬ (c = b) := fun q => e q.symm
    simp [e, this]

/-! How many hold. -/
def cnt (f : Nat → Bool) (n : Nat) : Nat := (List.range n).countP f
theorem cnt_le (f : Nat → Bool) (n : Nat) : cnt f n ≤ n := by
  unfold cnt
  have := List.countP_le_length (p := f) (l := List.range n)
  simpa using this
end Go.Proofs.YtbghhkdjcogpdaaDoor.Plain

/- The program's table of a party: for each person its friends, as the bits of a number. No condition but lengths that fit. -/
namespace Go.Proofs.YtbghhkdjcogpdaaDoor.Plain
open Go.RowKit Go.Proofs.YtbghhkdjcogpdaaDoorW.PrintWords Go.Proofs.YtbghhkdjcogpdaaDoorW.PrintLast
set_option linter.unusedVariables false
open Q

theorem wraps_u16 (n : Int) (h₀ : 0 ≤ n) (h₁ : n < 2 ^ 16) : IntKind.u16.wrap n = n := by
  have : IntKind.u16.wrap n = n % 65536 := by simp [IntKind.wrap, IntKind.bits, IntKind.signed]
  rw [this]; omega
theorem or16 {a b : Nat} (ha : a < 2 ^ 16) (hb : b < 2 ^ 16) : Go.bits .or .u16 (a : Int) (b : Int) = ((a ||| b : Nat) : Int) := (bits_nat .u16 16 (by decide) wraps_u16 a b ha hb).2
theorem and16 {a b : Nat} (ha : a < 2 ^ 16) (hb : b < 2 ^ 16) : Go.bits .and .u16 (a : Int) (b : Int) = ((a &&& b : Nat) : Int) := (bits_nat .u16 16 (by decide) wraps_u16 a b ha hb).1
theorem shl16 {b : Nat} (hb : b < 16) : shl .u16 1 (b : Int) = ((2 ^ b : Nat) : Int) := by
  unfold shl
  have h1 : min ((b : Int)).toNat IntKind.u16.bits = b := by
    rw [Int.toNat_natCast]
    exact Nat.min_eq_left (by show b ≤ 16; omega)
  rw [h1, Int.one_mul, wraps_u16]
  · simp
  · exact Int.pow_nonneg (by decide)
  · have : (2 : Nat) ^ b < 2 ^ 16 := Nat.pow_lt_pow_right (by omega) hb
    exact_mod_cast this

/-- The table of a relation of n people. -/
def tabF (n : Nat) (f : Nat → Nat → Bool) : List Int := (List.range n).map fun a => ((maskOf (f a) n : Nat) : Int)
theorem tabF_length (n : Nat) (f : Nat → Nat → Bool) : (tabF n f).length = n := by simp [tabF]
theorem tabF_get {n : Nat} {f : Nat → Nat → Bool} {a : Nat} (h : a < n) : rd (tabF n f) (a : Int) = ((maskOf (f a) n : Nat) : Int) := by
  rw [rd_at (by rw [tabF_length]; exact h)]
  simp [tabF]
theorem mask16 {f : Nat → Bool} {n : Nat} (h : n ≤ 16) : maskOf f n < 2 ^ 16 := Nat.lt_of_lt_of_le (maskOf_lt f n) (Nat.pow_le_pow_right (by omega) h)

end Go.Proofs.YtbghhkdjcogpdaaDoor.Plain

/- The places at which a test holds, as a list. No condition. -/
namespace Go.Proofs.YtbghhkdjcogpdaaDoor.Plain
open Go.RowKit Go.Proofs.YtbghhkdjcogpdaaDoorW.PrintWords Go.Proofs.YtbghhkdjcogpdaaDoorW.PrintLast
set_option linter.unusedVariables false
open Q

/-- The numbers less than n at which f holds, from i on. -/
def posFrom (f : Nat → Bool) (n i : Nat) : List Int := (((List.range n).drop i).filter f).map fun b : Nat => (b : Int)
def posL (f : Nat → Bool) (n : Nat) : List Int := posFrom f n 0
theorem posFrom_end (f : Nat → Bool) {n i : Nat} (h : n ≤ i) : posFrom f n i = [] := by
  unfold posFrom
  rw [List.drop_eq_nil_of_le (by simpa using h)]; rfl
theorem posFrom_step (f : Nat → Bool) {n i : Nat} (h : i < n) : posFrom f n i = (if f i = true then [(i : Int)] else []) ++ posFrom f n (i + 1) := by
  unfold posFrom
  rw [List.drop_eq_getElem_cons (by simpa using h), List.getElem_range, List.filter_cons]
  by_cases c : f i = true
  · rw [if_pos c, if_pos c]; rfl
  · rw [if_neg c, if_neg c]; rfl
theorem posL_length (f : Nat → Bool) (n : Nat) : (posL f n).length = cnt f n := by
  unfold posL posFrom cnt
  rw [List.length_map, List.drop_zero, List.countP_eq_length_filter]
theorem posL_le (f : Nat → Bool) (n : Nat) : (posL f n).length ≤ n := by rw [posL_length]; exact cnt_le _ _
theorem mem_posL {f : Nat → Bool} {n : Nat} {x : Int} : x ∈ posL f n ↔ ∃ b : Nat, b < n ∧ f b = true ∧ x = (b : Int) := by
  unfold posL posFrom
  simp only [List.drop_zero, List.mem_map, List.mem_filter, List.mem_range]
  constructor
  · rintro ⟨b, ⟨h1, h2⟩, rfl⟩; exact ⟨b, h1, h2, rfl⟩
  · rintro ⟨b, h1, h2, rfl⟩; exact ⟨b, ⟨h1, h2⟩, rfl⟩
theorem posL_congr {f g : Nat → Bool} {n : Nat} (h : ∀ b, b < n → f b = g b) : posL f n = posL g n := by
  unfold posL posFrom
  congr 1
  apply List.filter_congr
  intro b hb
  rw [List.drop_zero, List.mem_range] at hb
  exact h b hb
theorem posL_sorted (f : Nat → Bool) (n : Nat) : (posL f n).Pairwise (fun a b => a < b) := by
  unfold posL posFrom
  rw [List.pairwise_map, List.drop_zero]
  refine List.Pairwise.imp (R := fun a b : Nat => a < b) (fun h => by omega) ?_
  exact List.Pairwise.sublist List.filter_sublist List.pairwise_lt_range
/-- Two rising lists with the same members are one. -/
theorem rising_unique {l m : List Int} (h1 : l.Pairwise (fun a b => a < b)) (h2 : m.Pairwise (fun a b => a < b)) (h : ∀ x, x ∈ l ↔ x ∈ m) : l = m := by
  induction l generalizing m with
  | nil =>
    cases m with
    | nil => rfl
    | cons y m => exact absurd ((h y).2 (by simp)) (by simp)
  | cons x l ih =>
    cases m with
    | nil => exact absurd ((h x).1 (by simp)) (by simp)
    | cons y m =>
      obtain ⟨hx, hl⟩ := List.pairwise_cons.1 h1
      obtain ⟨hy, hm⟩ := List.pairwise_cons.1 h2
      have e : x = y := by
        have a := (h x).1 (by simp)
        have b := (h y).2 (by simp)
        rcases List.mem_cons.1 a with a | a
        · exact a
        · rcases List.mem_cons.1 b with b | b
          · exact b.symm
          · have := hy x a; have := hx y b; omega
      subst e
      congr 1
      refine ih hl hm (fun z => ?_)
      constructor
      · intro hz
        rcases List.mem_cons.1 ((h z).1 (by simp [hz])) with e | e
        · have := hx z hz; omega
        · exact e
      · intro hz
        rcases List.mem_cons.1 ((h z).2 (by simp [hz])) with e | e
        · have := hy z hz; omega
        · exact e

/-- What each knows behind calls: first oneself alone. -/
def knowStep (K : Nat → Nat → Bool) (x : Pr) : Nat → Nat → Bool := fun a b => if a = x.f0.toNat ∨ a = x.f1.toNat then K x.f0.toNat b || K x.f1.toNat b else K a b
def knows (l : List Pr) : Nat → Nat → Bool := l.foldl knowStep (fun a b => decide (b = a))
theorem knows_snoc (l : List Pr) (x : Pr) : knows (l ++ [x]) = knowStep (knows l) x := by unfold knows; rw [List.foldl_append]; rfl
theorem knows_take {l : List Pr} {i : Nat} (h : i < l.length) : knows (l.take (i + 1)) = knowStep (knows (l.take i)) l[i] := by rw [List.take_succ_eq_append_getElem h, knows_snoc]
end Go.Proofs.YtbghhkdjcogpdaaDoor.Plain

/- A number put into a rising list; two rising lists merged. No condition. -/
namespace Go.Proofs.YtbghhkdjcogpdaaDoor.Plain
open Go.RowKit Go.Proofs.YtbghhkdjcogpdaaDoorW.PrintWords Go.Proofs.YtbghhkdjcogpdaaDoorW.PrintLast
set_option linter.unusedVariables false
open Q

def insI : List Int → Int → List Int
  | [], x => [x]
  | y :: l, x => if y < x then y :: insI l x else if y = x then y :: l else x :: y :: l
theorem mem_insI : ∀ (l : List Int) (x z : Int), z ∈ insI l x ↔ z = x ∨ z ∈ l
  | [], x, z => by simp [insI]
  | y :: l, x, z => by
    unfold insI
    by_cases c : y < x
    · rw [if_pos c, List.mem_cons, mem_insI l x z, List.mem_cons]
      constructor
      · rintro (h | h | h)
        · exact .inr (.inl h)
        · exact .inl h
        · exact .inr (.inr h)
      · rintro (h | h | h)
        · exact .inr (.inl h)
        · exact .inl h
        · exact .inr (.inr h)
    · rw [if_neg c]
      by_cases d : y = x
      · rw [if_pos d, List.mem_cons]
        constructor
        · exact fun h => .inr h
        · rintro (h | h)
          · exact .inl (h.trans d.symm)
          · exact h
      · rw [if_neg d, List.mem_cons]
theorem insI_rising : ∀ (l : List Int) (x : Int), l.Pairwise (fun a b => a < b) → (insI l x).Pairwise (fun a b => a < b)
  | [], x, _ => by simp [insI]
  | y :: l, x, h => by
    obtain ⟨hy, hl⟩ := List.pairwise_cons.1 h
    unfold insI
    by_cases c : y < x
    · rw [if_pos c, List.pairwise_cons]
      refine ⟨fun z hz => ?_, insI_rising l x hl⟩
      rcases (mem_insI l x z).1 hz with e | e
      · omega
      · exact hy z e
    · rw [if_neg c]
      by_cases d : y = x
      · rw [if_pos d]; exact h
      · rw [if_neg d, List.pairwise_cons]
        refine ⟨fun z hz => ?_, h⟩
        rcases List.mem_cons.1 hz with e | e
        · omega
        · have := hy z e; omega
theorem insI_length : ∀ (l : List Int) (x : Int), (insI l x).length ≤ l.length + 1
  | [], x => by simp [insI]
  | y :: l, x => by
    unfold insI
    by_cases c : y < x
    · rw [if_pos c, List.length_cons, List.length_cons]; have := insI_length l x; omega
    · rw [if_neg c]
      by_cases d : y = x
      · rw [if_pos d]; omega
      · rw [if_neg d]; simp

def mergeI (b l : List Int) : List Int := l.foldl (fun b y => if b.contains y = true then b else insI b y) b
theorem mergeI_spec : ∀ (l b : List Int), b.Pairwise (fun a b => a < b) → (mergeI b l).Pairwise (fun a b => a < b) ∧ (∀ z, z ∈ mergeI b l ↔ z ∈ b ∨ z ∈ l) ∧ (mergeI b l).length ≤ b.length + l.length
  | [], b, h => ⟨h, fun z => by simp [mergeI], by simp [mergeI]⟩
  | y :: l, b, h => by
    have e : mergeI b (y :: l) = mergeI (if b.contains y = true then b else insI b y) l := rfl
    rw [e]
    by_cases c : b.contains y = true
    · rw [if_pos c]
      obtain ⟨h1, h2, h3⟩ := mergeI_spec l b h
      refine ⟨h1, fun z => ?_, by rw [List.length_cons]; omega⟩
      rw [h2, List.mem_cons]
      have hy : y ∈ b := by simpa using c
      constructor
      · rintro (q | q)
        · exact .inl q
        · exact .inr (.inr q)
      · rintro (q | q | q)
        · exact .inl q
        · exact .inl (by rw [q]; exact hy)
        · exact .inr q
    · rw [if_neg c]
      obtain ⟨h1, h2, h3⟩ := mergeI_spec l (insI b y) (insI_rising b y h)
      have := insI_length b y
      refine ⟨h1, fun z => ?_, by rw [List.length_cons]; omega⟩
      rw [h2, mem_insI, List.mem_cons]
      constructor
      · rintro ((q | q) | q)
        · exact .inr (.inl q)
        · exact .inl q
        · exact .inr (.inr q)
      · rintro (q | q | q)
        · exact .inl (.inr q)
        · exact .inl (.inl q)
        · exact .inr q
theorem merge_posL (f g : Nat → Bool) (n : Nat) : mergeI (posL f n) (posL g n) = posL (fun b => f b || g b) n := by
  obtain ⟨h1, h2, _⟩ := mergeI_spec (posL g n) (posL f n) (posL_sorted f n)
  refine rising_unique h1 (posL_sorted _ n) (fun z => ?_)
  rw [h2, mem_posL, mem_posL, mem_posL]
  constructor
  · rintro (⟨b, a1, a2, e⟩ | ⟨b, a1, a2, e⟩)
    · exact ⟨b, a1, by rw [a2]; rfl, e⟩
    · exact ⟨b, a1, by rw [a2]; simp, e⟩
  · rintro ⟨b, a1, a2, e⟩
    rw [Bool.or_eq_true] at a2
    rcases a2 with a2 | a2
    · exact .inl ⟨b, a1, a2, e⟩
    · exact .inr ⟨b, a1, a2, e⟩
end Go.Proofs.YtbghhkdjcogpdaaDoor.Plain

/- The law's own functions over lists of lists of whole numbers. No condition but lengths that fit. -/
namespace Go.Proofs.YtbghhkdjcogpdaaDoor.Plain
open Go.RowKit Go.Proofs.YtbghhkdjcogpdaaDoorW.PrintWords Go.Proofs.YtbghhkdjcogpdaaDoorW.PrintLast
set_option linter.unusedVariables false
open Q

theorem rdL_at {l : List (List Int)} {i : Nat} (h : i < l.length) : rd_L3 l (i : Int) = l[i] := by
  simp [rd_L3, List.getD, h]

theorem eqIntSS_ev (l : List (List Int)) (h : l.length ≤ 9223372036854775807) (hx : ∀ x ∈ l, x.length ≤ 9223372036854775807) : Ev (fun k => laws_eqIntSS.f k l l) true := by
  refine Ev.congr (f := fun k => laws_eqIntSS.l0 k l l 0) (fun k => ?_) ?_
  · unfold laws_eqIntSS.f
    rw [if_pos rfl]
  · exact ev_up (n := l.length) (loop := fun k i => laws_eqIntSS.l0 k l l (i : Int)) (r := fun _ => true)
      (Ev.step (f := fun _ => some true) (fun k => by simp [laws_eqIntSS.l0]) (Ev.now true))
      (fun i hi ih => by
        refine Ev.step (f := fun k => (laws_eqIntS.f k l[i] l[i]).bind fun t => if t = true then laws_eqIntSS.l0 k l l ((i + 1 : Nat) : Int) else some false) (fun k => ?_) ?_
        · simp only [laws_eqIntSS.l0]
          rw [if_pos (by omega), if_pos (by omega), if_pos (by omega), rdL_at hi, succ_cast hi h]
        · refine Ev.bind (eqIntS_ev l[i] (hx _ (List.getElem_mem hi))) ?_
          exact ev_if (fun _ => ih) (fun h => absurd rfl h)) 0 (Nat.zero_le _)
end Go.Proofs.YtbghhkdjcogpdaaDoor.Plain

/- Is a list of pairs a list of calls, on both sides. No condition but a length that fits. -/
namespace Go.Proofs.YtbghhkdjcogpdaaDoor.Plain
open Go.RowKit Go.Proofs.YtbghhkdjcogpdaaDoorW.PrintWords Go.Proofs.YtbghhkdjcogpdaaDoorW.PrintLast
set_option linter.unusedVariables false
open Q

/-- Calls of n people. -/
def callsB (n : Int) (l : List Pr) : Bool := (decide (1 ≤ n) && decide (n ≤ 12)) && (decide ((l.length : Int) ≤ 60) && l.all fun x => decide (0 ≤ x.f0) && decide (x.f0 < x.f1) && decide (x.f1 < n))

theorem areCalls_eq (n : Int) (l : List Pr) : impl_AreCalls.f n l = some (callsB n l) := by
  have hs : impl_areSome.f n = some (decide (1 ≤ n) && decide (n ≤ 12)) := by unfold impl_areSome.f; rw [within_eq]; rfl
  unfold impl_AreCalls.f callsB
  rw [hs, Option.bind_some]
  congr 3
  rw [List.not_any_eq_all_not]
  apply congrArg (fun f => l.all f)
  funext x
  rw [Bool.eq_iff_iff]
  unfold impl_AreCalls.bad
  simp only [Bool.not_eq_true', Bool.or_eq_false_iff, decide_eq_false_iff_not, Bool.and_eq_true, decide_eq_true_eq]
  omega

theorem haCalls_ev (n : Int) (l : List Pr) (h : l.length ≤ 9223372036854775807) : Ev (fun k => spec_haCalls.f k n l) (callsB n l) := by
  unfold spec_haCalls.f callsB
  refine ev_bind0 (l1In_eq n 1 12) ?_
  have bad : Ev (fun k => spec_haCalls.j0 k n l true) false := by
    refine Ev.step (f := fun _ => some false) (fun k => ?_) (Ev.now _)
    simp only [spec_haCalls.j0]
    rfl
  refine ev_if (fun c1 => ?_) (fun c1 => by rw [Bool.eq_false_iff.mpr c1, Bool.false_and]; exact bad)
  rw [c1, Bool.true_and]
  by_cases c2 : (l.length : Int) > 60
  · rw [decide_eq_true c2, decide_eq_false (show ¬ (l.length : Int) ≤ 60 by omega), Bool.false_and]
    exact bad
  · rw [decide_eq_false c2, decide_eq_true (show (l.length : Int) ≤ 60 by omega), Bool.true_and]
    refine Ev.step (f := fun k => spec_haCalls.l0 k n l (l.length : Int) 0) (fun k => ?_) ?_
    · simp only [spec_haCalls.j0]
      rfl
    · simp only [Bool.and_eq_true, decide_eq_true_eq] at c1
      have wn : wrap64 (n - 1) = n - 1 := wrap_id (by omega) (by omega)
      have q := ev_up (n := l.length) (loop := fun k i => spec_haCalls.l0 k n l (l.length : Int) (i : Int)) (r := fun i => (l.drop i).all fun x => decide (0 ≤ x.f0) && decide (x.f0 < x.f1) && decide (x.f1 < n))
        (Ev.step (f := fun _ => some true) (fun k => by simp only [spec_haCalls.l0]; rw [if_neg (by omega)]) (by simpa using Ev.now true))
        (fun i hi ih => by
          rw [List.drop_eq_getElem_cons hi, List.all_cons]
          by_cases d1 : 0 ≤ l[i].f0 ∧ l[i].f0 ≤ n - 1
          · have w1 : wrap64 (l[i].f0 + 1) = l[i].f0 + 1 := wrap_id (by omega) (by omega)
            have e1 : (decide (0 ≤ l[i].f0) && decide (l[i].f0 ≤ n - 1)) = true := by simp only [Bool.and_eq_true, decide_eq_true_eq]; exact d1
            by_cases d2 : l[i].f0 + 1 ≤ l[i].f1 ∧ l[i].f1 ≤ n - 1
            · have e2 : (decide (l[i].f0 + 1 ≤ l[i].f1) && decide (l[i].f1 ≤ n - 1)) = true := by simp only [Bool.and_eq_true, decide_eq_true_eq]; exact d2
              have e3 : (decide (0 ≤ l[i].f0) && decide (l[i].f0 < l[i].f1) && decide (l[i].f1 < n)) = true := by simp only [Bool.and_eq_true, decide_eq_true_eq]; omega
              refine Ev.step (f := fun k => spec_haCalls.l0 k n l (l.length : Int) ((i + 1 : Nat) : Int)) (fun k => ?_) (by rw [e3, Bool.true_and]; exact ih)
              simp only [spec_haCalls.l0]
              rw [if_pos (by omega), if_pos (by omega), if_pos (by omega), rdP_at hi, wn, w1, l1In_eq, Option.bind_some, if_pos e1, l1In_eq, Option.bind_some, if_pos e2, succ_cast hi (by omega)]
            · have e2 : ¬ (decide (l[i].f0 + 1 ≤ l[i].f1) && decide (l[i].f1 ≤ n - 1)) = true := by simp only [Bool.and_eq_true, decide_eq_true_eq]; exact d2
              have e3 : (decide (0 ≤ l[i].f0) && decide (l[i].f0 < l[i].f1) && decide (l[i].f1 < n)) = false := by rw [Bool.eq_false_iff]; simp only [ne_eq, Bool.and_eq_true, decide_eq_true_eq]; omega
              refine Ev.step (f := fun _ => some false) (fun k => ?_) (by rw [e3, Bool.false_and]; exact Ev.now _)
              simp only [spec_haCalls.l0]
              rw [if_pos (by omega), if_pos (by omega), if_pos (by omega), rdP_at hi, wn, w1, l1In_eq, Option.bind_some, if_pos e1, l1In_eq, Option.bind_some, if_neg e2]
          · have e1 : ¬ (decide (0 ≤ l[i].f0) && decide (l[i].f0 ≤ n - 1)) = true := by simp only [Bool.and_eq_true, decide_eq_true_eq]; exact d1
            have e3 : (decide (0 ≤ l[i].f0) && decide (l[i].f0 < l[i].f1) && decide (l[i].f1 < n)) = false := by rw [Bool.eq_false_iff]; simp only [ne_eq, Bool.and_eq_true, decide_eq_true_eq]; omega
            refine Ev.step (f := fun _ => some false) (fun k => ?_) (by rw [e3, Bool.false_and]; exact Ev.now _)
            simp only [spec_haCalls.l0]
            rw [if_pos (by omega), if_pos (by omega), if_pos (by omega), rdP_at hi, wn, l1In_eq, Option.bind_some, if_neg e1]) 0 (Nat.zero_le _)
      simpa using q
end Go.Proofs.YtbghhkdjcogpdaaDoor.Plain

/- What each knows behind a row of calls: both sides hold it, the program as bits, the reference as rising lists. No condition but calls among n people. -/
namespace Go.Proofs.YtbghhkdjcogpdaaDoor.Plain
open Go.RowKit Go.Proofs.YtbghhkdjcogpdaaDoorW.PrintWords Go.Proofs.YtbghhkdjcogpdaaDoorW.PrintLast
set_option linter.unusedVariables false
open Q

def CallsOk (n : Nat) (l : List Pr) : Prop := ∀ x ∈ l, 0 ≤ x.f0 ∧ x.f0 < x.f1 ∧ x.f1 < (n : Int)
theorem CallsOk.take {n : Nat} {l : List Pr} (h : CallsOk n l) (i : Nat) : CallsOk n (l.take i) := fun x hx => h x (List.mem_of_mem_take hx)
/-! ### The program's side -/
theorem tab_know {n : Nat} (hn : n ≤ 16) (K : Nat → Nat → Bool) (x : Pr) (h0 : 0 ≤ x.f0) (h1 : x.f0 < x.f1) (h2 : x.f1 < (n : Int)) :
    ((tabF n K).set x.f0.toNat (Go.bits .or .u16 (rd (tabF n K) x.f0) (rd (tabF n K) x.f1))).set x.f1.toNat (Go.bits .or .u16 (rd (tabF n K) x.f0) (rd (tabF n K) x.f1)) = tabF n (knowStep K x) := by
  have ea : x.f0 = ((x.f0.toNat : Nat) : Int) := by omega
  have eb : x.f1 = ((x.f1.toNat : Nat) : Int) := by omega
  have e1 : Go.bits .or .u16 (rd (tabF n K) x.f0) (rd (tabF n K) x.f1) = ((maskOf (fun c => K x.f0.toNat c || K x.f1.toNat c) n : Nat) : Int) := by
    rw [ea, eb, tabF_get (by omega), tabF_get (by omega), or16 (mask16 hn) (mask16 hn), mask_or]
    simp only [Int.toNat_natCast]
  rw [e1]
  apply List.ext_getElem
  · simp [tabF_length]
  · intro j hj hj2
    rw [tabF_length] at hj2
    rw [List.getElem_set]
    by_cases c : x.f1.toNat = j
    · rw [if_pos c]
      simp only [tabF, List.getElem_map, List.getElem_range]
      congr 2
      funext z
      unfold knowStep
      rw [if_pos (by omega)]
    · rw [if_neg c, List.getElem_set]
      by_cases d : x.f0.toNat = j
      · rw [if_pos d]
        simp only [tabF, List.getElem_map, List.getElem_range]
        congr 2
        funext z
        unfold knowStep
        rw [if_pos (by omega)]
      · rw [if_neg d]
        simp only [tabF, List.getElem_map, List.getElem_range]
        congr 2
        funext z
        unfold knowStep
        rw [if_neg (by omega)]

theorem news_ev {n : Nat} (hn : n ≤ 12) {l : List Pr} (hc : CallsOk n l) (h : l.length ≤ 9223372036854775807) : Ev (fun k => impl_news.f k (n : Int) l) (tabF n (knows l)) := by
  unfold impl_news.f
  have q1 := ev_up (n := l.length) (loop := fun k i => impl_news.l1 k (tabF n (knows (l.take i))) l (l.length : Int) (i : Int)) (r := fun _ => tabF n (knows l))
    (Ev.step (f := fun _ => some (tabF n (knows l))) (fun k => by simp [impl_news.l1]) (Ev.now _))
    (fun i hi ih => by
      have r := hc _ (List.getElem_mem hi)
      have hk := tab_know (n := n) (by omega) (knows (l.take i)) l[i] r.1 r.2.1 r.2.2
      rw [← knows_take hi] at hk
      refine Ev.step (f := fun k => impl_news.l1 k (tabF n (knows (l.take (i + 1)))) l (l.length : Int) ((i + 1 : Nat) : Int)) (fun k => ?_) ih
      simp only [impl_news.l1]
      rw [if_pos (by omega), if_pos (by omega), if_pos (by omega), rdP_at hi, if_pos (by omega), if_pos (by rw [tabF_length]; omega), if_pos (by omega), if_pos (by rw [tabF_length]; omega), hk, succ_cast hi h]) 0 (Nat.zero_le _)
  have q0 := ev_up (n := n) (loop := fun k i => impl_news.l0 k l ((tabF n (knows [])).take i) (n : Int) (i : Int)) (r := fun _ => tabF n (knows l))
    (Ev.step (f := fun k => impl_news.l1 k (tabF n (knows [])) l (l.length : Int) 0) (fun k => by
      simp only [impl_news.l0]
      rw [if_neg (by omega), List.take_of_length_le (by rw [tabF_length]; omega)]) (by simpa using q1))
    (fun i hi ih => by
      have e : (tabF n (knows [])).take i ++ [shl .u16 1 (i : Int)] = (tabF n (knows [])).take (i + 1) := by
        rw [List.take_succ_eq_append_getElem (by rw [tabF_length]; exact hi), shl16 (by omega), mask_one hi]
        simp only [tabF, List.getElem_map, List.getElem_range]
        rfl
      refine Ev.step (f := fun k => impl_news.l0 k l ((tabF n (knows [])).take (i + 1)) (n : Int) ((i + 1 : Nat) : Int)) (fun k => ?_) ih
      simp only [impl_news.l0]
      rw [if_pos (by omega), if_pos (by omega), if_pos (by rw [List.length_take, tabF_length]; omega), e, succ_cast hi (by omega)]) 0 (Nat.zero_le _)
  simpa using q0

/-! ### The reference's side -/
theorem own_eq {l : List Int} (h : l.length ≤ 1000) : spec_l1Own.f l = some l := by
  unfold spec_l1Own.f
  rw [Option.bind_some, if_pos (by simp; omega), List.nil_append]
theorem put_ev (l : List Int) (x : Int) (h : l.length ≤ 1000) : Ev (fun k => spec_l1Put.f k l x) (insI l x) := by
  have key : ∀ d i, l.length - i = d → i ≤ l.length → Ev (fun k => spec_l1Put.l0 k l x (i : Int)) (l.take i ++ insI (l.drop i) x) := by
    intro d
    induction d with
    | zero =>
      intro i hd hi
      obtain rfl : i = l.length := by omega
      refine Ev.step (f := fun _ => some (l ++ [x])) (fun k => ?_) ?_
      · simp only [spec_l1Put.l0]
        rw [if_neg (by omega), Option.bind_some, if_pos (by omega), if_pos (by omega), Option.bind_some, Int.toNat_natCast, List.take_length, if_pos (by simp only [List.length_nil]; omega), Option.bind_some, if_pos (by simp; omega), Option.bind_some, List.drop_length, Option.bind_some, if_pos (by simp; omega)]
        simp
      · rw [List.take_length, List.drop_length]; exact Ev.now _
    | succ d ih =>
      intro i hd hi
      have hi' : i < l.length := by omega
      rw [List.drop_eq_getElem_cons hi']
      unfold insI
      by_cases c : l[i] < x
      · rw [if_pos c]
        refine Ev.step (f := fun k => spec_l1Put.l0 k l x ((i + 1 : Nat) : Int)) (fun k => ?_) ?_
        · simp only [spec_l1Put.l0]
          rw [if_pos (by omega), if_pos (by omega), rd_at hi', if_pos c, succ_cast hi' (by omega)]
        · have := ih (i + 1) (by omega) (by omega)
          rw [List.take_succ_eq_append_getElem hi', List.append_assoc] at this
          exact this
      · rw [if_neg c]
        by_cases e : l[i] = x
        · rw [if_pos e, ← List.drop_eq_getElem_cons hi', List.take_append_drop]
          refine Ev.step (f := fun _ => some l) (fun k => ?_) (Ev.now _)
          simp only [spec_l1Put.l0]
          rw [if_pos (by omega), if_pos (by omega), rd_at hi', if_neg c, if_pos e]
        · rw [if_neg e, ← List.drop_eq_getElem_cons hi']
          refine Ev.step (f := fun _ => some (l.take i ++ x :: l.drop i)) (fun k => ?_) (Ev.now _)
          simp only [spec_l1Put.l0]
          rw [if_pos (by omega), if_pos (by omega), rd_at hi', if_neg c, if_neg e, Option.bind_some, if_pos (by omega), Option.bind_some, Int.toNat_natCast, if_pos (by simp; omega), Option.bind_some, if_pos (by simp; omega), Option.bind_some, Option.bind_some, if_pos (by simp; omega)]
          simp
  have := key _ 0 rfl (Nat.zero_le _)
  rw [List.take_zero, List.nil_append, List.drop_zero] at this
  exact this

def listF (n : Nat) (K : Nat → Nat → Bool) : List (List Int) := (List.range n).map fun a => posL (K a) n
theorem listF_length (n : Nat) (K : Nat → Nat → Bool) : (listF n K).length = n := by simp [listF]
theorem listF_get {n : Nat} {K : Nat → Nat → Bool} {a : Nat} (h : a < n) : rd_L3 (listF n K) (a : Int) = posL (K a) n := by
  rw [rdL_at (by rw [listF_length]; exact h)]
  simp [listF]
theorem list_know {n : Nat} (K : Nat → Nat → Bool) (x : Pr) (h0 : 0 ≤ x.f0) (h1 : x.f0 < x.f1) (h2 : x.f1 < (n : Int)) :
    ((listF n K).set x.f0.toNat (posL (fun b => K x.f0.toNat b || K x.f1.toNat b) n)).set x.f1.toNat (posL (fun b => K x.f0.toNat b || K x.f1.toNat b) n) = listF n (knowStep K x) := by
  apply List.ext_getElem
  · simp [listF_length]
  · intro j hj hj2
    rw [listF_length] at hj2
    rw [List.getElem_set]
    by_cases c : x.f1.toNat = j
    · rw [if_pos c]
      simp only [listF, List.getElem_map, List.getElem_range]
      apply posL_congr
      intro z _
      unfold knowStep
      rw [if_pos (by omega)]
    · rw [if_neg c, List.getElem_set]
      by_cases d : x.f0.toNat = j
      · rw [if_pos d]
        simp only [listF, List.getElem_map, List.getElem_range]
        apply posL_congr
        intro z _
        unfold knowStep
        rw [if_pos (by omega)]
      · rw [if_neg d]
        simp only [listF, List.getElem_map, List.getElem_range]
        apply posL_congr
        intro z _
        unfold knowStep
        rw [if_neg (by omega)]
theorem pos_one {n a : Nat} (h : a < n) : posL (fun b => decide (b = a)) n = [(a : Int)] := by
  refine rising_unique (posL_sorted _ _) (by simp) (fun x => ?_)
  rw [mem_posL, List.mem_singleton]
  constructor
  · rintro ⟨b, _, h2, rfl⟩
    rw [of_decide_eq_true h2]
  · rintro rfl
    exact ⟨a, h, by simp, rfl⟩

theorem haNews_ev {n : Nat} (hn : n ≤ 12) {l : List Pr} (hc : CallsOk n l) (h : l.length ≤ 9223372036854775807) : Ev (fun k => spec_haNews.f k (n : Int) l) (listF n (knows l)) := by
  unfold spec_haNews.f
  have q1 := ev_up (n := l.length) (loop := fun k i => spec_haNews.l1 k (listF n (knows (l.take i))) l (l.length : Int) (i : Int)) (r := fun _ => listF n (knows l))
    (Ev.step (f := fun _ => some (listF n (knows l))) (fun k => by simp [spec_haNews.l1]) (Ev.now _))
    (fun i hi ih => by
      have r := hc _ (List.getElem_mem hi)
      have hk := list_know (n := n) (knows (l.take i)) l[i] r.1 r.2.1 r.2.2
      rw [← knows_take hi] at hk
      obtain ⟨K, hK⟩ : ∃ K, K = knows (l.take i) := ⟨_, rfl⟩
      rw [← hK] at hk ⊢
      have ea : l[i].f0 = ((l[i].f0.toNat : Nat) : Int) := by omega
      have eb : l[i].f1 = ((l[i].f1.toNat : Nat) : Int) := by omega
      have ga : rd_L3 (listF n K) l[i].f0 = posL (K l[i].f0.toNat) n := (congrArg (rd_L3 (listF n K)) ea).trans (listF_get (by omega))
      have gb : rd_L3 (listF n K) l[i].f1 = posL (K l[i].f1.toNat) n := (congrArg (rd_L3 (listF n K)) eb).trans (listF_get (by omega))
      have la := posL_le (K l[i].f0.toNat) n
      have lb := posL_le (K l[i].f1.toNat) n
      have hm := merge_posL (K l[i].f0.toNat) (K l[i].f1.toNat) n
      have hs := posL_sorted (K l[i].f0.toNat) n
      obtain ⟨A, hA⟩ : ∃ A, A = posL (K l[i].f0.toNat) n := ⟨_, rfl⟩
      obtain ⟨B, hB⟩ : ∃ B, B = posL (K l[i].f1.toNat) n := ⟨_, rfl⟩
      rw [← hA] at ga la hm hs
      rw [← hB] at gb lb hm
      have q2 := ev_up (n := B.length) (loop := fun k j => spec_haNews.l2 k (listF n K) (mergeI A (B.take j)) l (l.length : Int) (i : Int) B (B.length : Int) (j : Int) l[i].f0 l[i].f1) (r := fun _ => listF n (knows l))
        (Ev.step (f := fun k => spec_haNews.l1 k (listF n (knows (l.take (i + 1)))) l (l.length : Int) ((i + 1 : Nat) : Int)) (fun k => by
          simp only [spec_haNews.l2]
          rw [if_neg (by omega), List.take_length, hm, own_eq (by have := posL_le (fun b => K l[i].f0.toNat b || K l[i].f1.toNat b) n; omega), Option.bind_some, if_pos (by omega), if_pos (by rw [listF_length]; omega), if_pos (by omega), if_pos (by rw [listF_length]; omega), hk, succ_cast hi h]) ih)
        (fun j hj ihj => by
          have ms := (mergeI_spec (B.take j) A hs).2.2
          rw [List.length_take] at ms
          have step : mergeI A (B.take (j + 1)) = if (mergeI A (B.take j)).contains B[j] = true then mergeI A (B.take j) else insI (mergeI A (B.take j)) B[j] := by
            unfold mergeI
            rw [List.take_succ_eq_append_getElem hj, List.foldl_append]
            rfl
          obtain ⟨M, hM⟩ : ∃ M, M = mergeI A (B.take j) := ⟨_, rfl⟩
          rw [← hM] at ms step ⊢
          rw [step] at ihj
          refine Ev.step (f := fun k => (spec_l1Has.f k M B[j]).bind fun t => if t = true then spec_haNews.l2 k (listF n K) M l (l.length : Int) (i : Int) B (B.length : Int) ((j + 1 : Nat) : Int) l[i].f0 l[i].f1 else (spec_l1Put.f k M B[j]).bind fun t2 => spec_haNews.l2 k (listF n K) t2 l (l.length : Int) (i : Int) B (B.length : Int) ((j + 1 : Nat) : Int) l[i].f0 l[i].f1) (fun k => ?_) ?_
          · simp only [spec_haNews.l2]
            rw [if_pos (by omega), if_pos (by omega), if_pos (by omega), rd_at hj, succ_cast hj (by omega)]
          · refine Ev.bind (l1Has_ev M B[j] (by omega)) ?_
            refine ev_if (fun c => ?_) (fun c => ?_)
            · rw [if_pos c] at ihj; exact ihj
            · rw [if_neg c] at ihj
              exact Ev.bind (put_ev M B[j] (by omega)) ihj) 0 (Nat.zero_le _)
      refine Ev.step (f := fun k => spec_haNews.l2 k (listF n K) A l (l.length : Int) (i : Int) B (B.length : Int) 0 l[i].f0 l[i].f1) (fun k => ?_) (by simpa [mergeI] using q2)
      simp only [spec_haNews.l1]
      rw [if_pos (by omega), if_pos (by omega), if_pos (by omega), rdP_at hi, if_pos (by omega), if_pos (by rw [listF_length]; omega), ga, own_eq (by omega), Option.bind_some, if_pos (by omega), if_pos (by rw [listF_length]; omega), gb]) 0 (Nat.zero_le _)
  have q0 := ev_up (n := n) (loop := fun k i => spec_haNews.l0 k (n : Int) l ((listF n (knows [])).take i) (i : Int)) (r := fun _ => listF n (knows l))
    (Ev.step (f := fun k => spec_haNews.l1 k (listF n (knows [])) l (l.length : Int) 0) (fun k => by
      simp only [spec_haNews.l0]
      rw [if_neg (by omega), List.take_of_length_le (by rw [listF_length]; omega)]) (by simpa using q1))
    (fun i hi ih => by
      have e : (listF n (knows [])).take i ++ [[(i : Int)]] = (listF n (knows [])).take (i + 1) := by
        rw [List.take_succ_eq_append_getElem (by rw [listF_length]; exact hi), ← pos_one hi]
        simp only [listF, List.getElem_map, List.getElem_range]
        rfl
      refine Ev.step (f := fun k => spec_haNews.l0 k (n : Int) l ((listF n (knows [])).take (i + 1)) ((i + 1 : Nat) : Int)) (fun k => ?_) ih
      simp only [spec_haNews.l0]
      rw [if_pos (by omega), if_pos (by rw [List.length_take, listF_length]; omega), e, succ_cast hi (by omega)]) 0 (Nat.zero_le _)
  simpa using q0

/-! ### Calls, as numbers -/
theorem calls_nat {n : Int} {l : List Pr} (h : callsB n l = true) : ∃ m : Nat, n = (m : Int) ∧ 1 ≤ m ∧ m ≤ 12 ∧ l.length ≤ 60 ∧ CallsOk m l := by
  unfold callsB at h
  simp only [Bool.and_eq_true, decide_eq_true_eq, List.all_eq_true] at h
  obtain ⟨⟨h1, h2⟩, h3, h4⟩ := h
  refine ⟨n.toNat, by omega, by omega, by omega, by omega, fun x hx => ?_⟩
  have := h4 x hx
  omega
end Go.Proofs.YtbghhkdjcogpdaaDoor.Plain

/- The law's own functions over parties, and the reference's test. No condition but lengths that fit. -/
namespace Go.Proofs.YtbghhkdjcogpdaaDoor.Plain
open Go.RowKit Go.Proofs.YtbghhkdjcogpdaaDoorW.PrintWords Go.Proofs.YtbghhkdjcogpdaaDoorW.PrintLast
set_option linter.unusedVariables false
open Q

abbrev Lp := S49
/-- A pair of the law's as a pair of the program's. -/
def toP (x : Lp) : Pr := ⟨x.f0, x.f1⟩

theorem rdLp_at {l : List Lp} {i : Nat} (h : i < l.length) : rd_T49 l (i : Int) = l[i] := by
  simp [rd_T49, List.getD, h]

theorem copy_map {α β : Type} (z : β) (g : α → β) (l : List α) (i : Nat) (h : i < l.length) :
    ((l.map g).take i ++ List.replicate (l.length - i) z).set ((i : Int)).toNat (g l[i]) = (l.map g).take (i + 1) ++ List.replicate (l.length - (i + 1)) z := by
  have e : l.length - i = (l.length - (i + 1)) + 1 := by omega
  have hl : ((l.map g).take i).length = i := by simp; omega
  have hm : i < (l.map g).length := by simpa using h
  rw [Int.toNat_natCast, e, List.replicate_succ, List.set_append_right _ _ (by omega), hl, Nat.sub_self, List.set_cons_zero, List.take_succ_eq_append_getElem hm, List.append_assoc, List.getElem_map]
  rfl

theorem toPairS_ev (l : List Lp) (h : l.length ≤ 17592186044416) : Ev (fun k => laws_toPairS.f k l) (l.map toP) := by
  refine Ev.congr (f := fun k => laws_toPairS.l0 k l (List.replicate l.length z47) 0) (fun k => ?_) ?_
  · unfold laws_toPairS.f
    rw [if_pos (by omega), if_pos (by omega), Int.toNat_natCast]
  · have q := ev_up (n := l.length) (loop := fun k i => laws_toPairS.l0 k l ((l.map toP).take i ++ List.replicate (l.length - i) z47) (i : Int)) (r := fun _ => l.map toP)
      (Ev.step (f := fun _ => some (l.map toP)) (fun k => by
        simp only [laws_toPairS.l0]
        rw [if_neg (by omega), Nat.sub_self, List.replicate_zero, List.append_nil, List.take_of_length_le (by simp)]) (Ev.now _))
      (fun i hi ih => Ev.step (f := fun k => laws_toPairS.l0 k l ((l.map toP).take (i + 1) ++ List.replicate (l.length - (i + 1)) z47) ((i + 1 : Nat) : Int)) (fun k => by
        simp only [laws_toPairS.l0]
        rw [if_pos (by omega), if_pos (by omega), rdLp_at hi]
        show (if (i : Int) < _ then laws_toPairS.l0 k l (List.set _ _ (toP l[i])) _ else none) = _
        rw [if_pos (by simp; omega), copy_map _ toP l i hi, succ_cast hi (by omega)]) ih) 0 (Nat.zero_le _)
    simpa using q

theorem eqPair_eq (x : Pr) : laws_eqPair.f x.f0 x.f1 x.f0 x.f1 = some true := by
  unfold laws_eqPair.f
  rw [if_pos rfl, if_pos rfl]

theorem eqPairS_ev (l : List Pr) (h : l.length ≤ 9223372036854775807) : Ev (fun k => laws_eqPairS.f k l l) true := by
  refine Ev.congr (f := fun k => laws_eqPairS.l0 k l l 0) (fun k => ?_) ?_
  · unfold laws_eqPairS.f
    rw [if_pos rfl]
  · exact ev_up (n := l.length) (loop := fun k i => laws_eqPairS.l0 k l l (i : Int)) (r := fun _ => true)
      (Ev.step (f := fun _ => some true) (fun k => by simp [laws_eqPairS.l0]) (Ev.now true))
      (fun i hi ih => Ev.step (f := fun k => laws_eqPairS.l0 k l l ((i + 1 : Nat) : Int)) (fun k => by
        simp only [laws_eqPairS.l0]
        rw [if_pos (by omega), if_pos (by omega), if_pos (by omega), rdP_at hi, eqPair_eq, Option.bind_some, if_pos rfl, succ_cast hi h]) ih) 0 (Nat.zero_le _)

end Go.Proofs.YtbghhkdjcogpdaaDoor.Plain

/- The laws' marks: written into a list and found again. No condition but a length that fits. -/
namespace Go.Proofs.YtbghhkdjcogpdaaDoor.Plain
open Go.RowKit Go.Proofs.YtbghhkdjcogpdaaDoorW.PrintWords Go.Proofs.YtbghhkdjcogpdaaDoorW.PrintLast
set_option linter.unusedVariables false
open Q

/-- The marks of n pairs from v on. -/
def marksP (v : Int) (n : Nat) : List Pr := (List.range n).map fun i : Nat => ⟨v + 2 * (i : Int), v + 2 * (i : Int) + 1⟩
/-- The marks of n numbers from v on. -/
def marksI (v : Int) (n : Nat) : List Int := (List.range n).map fun i : Nat => v + (i : Int)
theorem marksP_length (v : Int) (n : Nat) : (marksP v n).length = n := by simp [marksP]
theorem marksI_length (v : Int) (n : Nat) : (marksI v n).length = n := by simp [marksI]
theorem marksP_get {v : Int} {n i : Nat} (h : i < (marksP v n).length) : (marksP v n)[i] = ⟨v + 2 * (i : Int), v + 2 * (i : Int) + 1⟩ := by simp [marksP]
theorem marksI_get {v : Int} {n i : Nat} (h : i < (marksI v n).length) : (marksI v n)[i] = v + (i : Int) := by simp [marksI]

theorem marksP_step (v : Int) (l : List Pr) {i : Nat} (hi : i < l.length) (x : Pr) (hx : x = ⟨v + 2 * (i : Int), v + 2 * (i : Int) + 1⟩) : (marksP v i ++ l.drop i).set i x = marksP v (i + 1) ++ l.drop (i + 1) := by
  apply List.ext_getElem
  · simp [marksP_length]; omega
  · intro j h1 h2
    rw [List.getElem_set]
    by_cases e : i = j
    · subst e
      rw [if_pos rfl, List.getElem_append_left (by rw [marksP_length]; omega), marksP_get, hx]
    · rw [if_neg e]
      by_cases c : j < i
      · rw [List.getElem_append_left (by rw [marksP_length]; omega), List.getElem_append_left (by rw [marksP_length]; omega), marksP_get, marksP_get]
      · rw [List.getElem_append_right (by rw [marksP_length]; omega), List.getElem_append_right (by rw [marksP_length]; omega), List.getElem_drop, List.getElem_drop]
        congr 1
        rw [marksP_length, marksP_length]
        omega
theorem marksI_step (v : Int) (l : List Int) {i : Nat} (hi : i < l.length) : (marksI v i ++ l.drop i).set i (v + (i : Int)) = marksI v (i + 1) ++ l.drop (i + 1) := by
  apply List.ext_getElem
  · simp [marksI_length]; omega
  · intro j h1 h2
    rw [List.getElem_set]
    by_cases e : i = j
    · subst e
      rw [if_pos rfl, List.getElem_append_left (by rw [marksI_length]; omega), marksI_get]
    · rw [if_neg e]
      by_cases c : j < i
      · rw [List.getElem_append_left (by rw [marksI_length]; omega), List.getElem_append_left (by rw [marksI_length]; omega), marksI_get, marksI_get]
      · rw [List.getElem_append_right (by rw [marksI_length]; omega), List.getElem_append_right (by rw [marksI_length]; omega), List.getElem_drop, List.getElem_drop]
        congr 1
        rw [marksI_length, marksI_length]
        omega

theorem markPairS_ev (l : List Pr) (v : Int) (h : l.length ≤ 1152921504606846976) (h0 : 0 ≤ v) (h1 : v ≤ 1000) : Ev (fun k => laws_markPairS.f k l v) (v + 2 * (l.length : Int), marksP v l.length) := by
  have q := ev_up (n := l.length) (loop := fun k i => laws_markPairS.l0 k (marksP v i ++ l.drop i) (v + 2 * (i : Int)) (i : Int)) (r := fun _ => (v + 2 * (l.length : Int), marksP v l.length))
    (by
      refine Ev.step (f := fun _ => some (v + 2 * (l.length : Int), marksP v l.length)) (fun k => ?_) (Ev.now _)
      simp only [laws_markPairS.l0]
      rw [List.drop_length, List.append_nil, if_neg (by rw [marksP_length]; omega)])
    (fun i hi ih => by
      have hlen : (marksP v i ++ l.drop i).length = l.length := by rw [List.length_append, marksP_length, List.length_drop]; omega
      have w1 : wrap64 (v + 2 * (i : Int) + 1) = v + 2 * (i : Int) + 1 := wrap_id (by omega) (by omega)
      have w2 : wrap64 (v + 2 * (i : Int) + 1 + 1) = v + 2 * ((i + 1 : Nat) : Int) := by rw [wrap_id (by omega) (by omega)]; omega
      refine Ev.step (f := fun k => laws_markPairS.l0 k (marksP v (i + 1) ++ l.drop (i + 1)) (v + 2 * ((i + 1 : Nat) : Int)) ((i + 1 : Nat) : Int)) (fun k => ?_) ih
      simp only [laws_markPairS.l0]
      rw [if_pos (by rw [hlen]; omega), if_pos (by omega), Option.bind_some, w1, w2, succ_cast hi (by omega), Int.toNat_natCast, List.set_set]
      rw [marksP_step v l hi _ (by rw [rdP_at (by rw [List.length_set, hlen]; exact hi), List.getElem_set_self])]) 0 (Nat.zero_le _)
  have e : marksP v 0 ++ l.drop 0 = l := by simp [marksP]
  rw [e] at q
  simpa [laws_markPairS.f] using q

theorem markIntS_ev (l : List Int) (v : Int) (h : l.length ≤ 1152921504606846976) (h0 : 0 ≤ v) (h1 : v ≤ 1152921504606846976) : Ev (fun k => laws_markIntS.f k l v) (v + (l.length : Int), marksI v l.length) := by
  have q := ev_up (n := l.length) (loop := fun k i => laws_markIntS.l0 k (marksI v i ++ l.drop i) (v + (i : Int)) (i : Int)) (r := fun _ => (v + (l.length : Int), marksI v l.length))
    (by
      refine Ev.step (f := fun _ => some (v + (l.length : Int), marksI v l.length)) (fun k => ?_) (Ev.now _)
      simp only [laws_markIntS.l0]
      rw [List.drop_length, List.append_nil, if_neg (by rw [marksI_length]; omega)])
    (fun i hi ih => by
      have hlen : (marksI v i ++ l.drop i).length = l.length := by rw [List.length_append, marksI_length, List.length_drop]; omega
      have w1 : wrap64 (v + (i : Int) + 1) = v + ((i + 1 : Nat) : Int) := by rw [wrap_id (by omega) (by omega)]; omega
      refine Ev.step (f := fun k => laws_markIntS.l0 k (marksI v (i + 1) ++ l.drop (i + 1)) (v + ((i + 1 : Nat) : Int)) ((i + 1 : Nat) : Int)) (fun k => ?_) ih
      simp only [laws_markIntS.l0]
      rw [if_pos (by rw [hlen]; omega), if_pos (by omega), w1, succ_cast hi (by omega), Int.toNat_natCast, marksI_step v l hi]) 0 (Nat.zero_le _)
  have e : marksI v 0 ++ l.drop 0 = l := by simp [marksI]
  rw [e] at q
  simpa [laws_markIntS.f] using q

theorem heldIntS_ev (n : Nat) (v : Int) (h : n ≤ 1152921504606846976) (h0 : 0 ≤ v) (h1 : v ≤ 1152921504606846976) : Ev (fun k => laws_heldIntS.f k (marksI v n) v) (v + (n : Int)) := by
  have hl := marksI_length v n
  have q := ev_up (n := n) (loop := fun k i => laws_heldIntS.l0 k (marksI v n) (v + (i : Int)) (i : Int)) (r := fun _ => v + (n : Int))
    (Ev.step (f := fun _ => some (v + (n : Int))) (fun k => by simp only [laws_heldIntS.l0]; rw [if_neg (by rw [hl]; omega)]) (Ev.now _))
    (fun i hi ih => by
      have w1 : wrap64 (v + (i : Int) + 1) = v + ((i + 1 : Nat) : Int) := by rw [wrap_id (by omega) (by omega)]; omega
      refine Ev.step (f := fun k => laws_heldIntS.l0 k (marksI v n) (v + ((i + 1 : Nat) : Int)) ((i + 1 : Nat) : Int)) (fun k => ?_) ih
      simp only [laws_heldIntS.l0]
      rw [if_pos (by rw [hl]; omega), if_pos (by omega), rd_at (by rw [hl]; exact hi), marksI_get, if_pos rfl, w1, succ_cast hi (by omega)]) 0 (Nat.zero_le _)
  simpa [laws_heldIntS.f] using q

end Go.Proofs.YtbghhkdjcogpdaaDoor.Plain

/- The laws' marks over rows of rows: written and found again. No condition but sizes that fit. -/
namespace Go.Proofs.YtbghhkdjcogpdaaDoor.Plain
open Go.RowKit Go.Proofs.YtbghhkdjcogpdaaDoorW.PrintWords Go.Proofs.YtbghhkdjcogpdaaDoorW.PrintLast
set_option linter.unusedVariables false
open Q

def totR : List (List Int) → Nat
  | [] => 0
  | r :: l => r.length + totR l
def markRows : Int → List (List Int) → List (List Int)
  | _, [] => []
  | v, r :: l => marksI v r.length :: markRows (v + (r.length : Int)) l
theorem markIntSS_at : ∀ (l p : List (List Int)) (v : Int), 0 ≤ v → v + (totR l : Int) ≤ 1152921504606846976 → p.length + l.length ≤ 1152921504606846976 →
    Ev (fun k => laws_markIntSS.l0 k (p ++ l) v (p.length : Int)) (v + (totR l : Int), p ++ markRows v l)
  | [], p, v, h0, h1, h2 => by
    refine Ev.step (f := fun _ => some (v, p)) (fun k => ?_) (by simpa [totR, markRows] using Ev.now (v, p))
    simp only [laws_markIntSS.l0]
    rw [if_neg (by simp), List.append_nil]
  | r :: l, p, v, h0, h1, h2 => by
    simp only [totR] at h1
    simp only [List.length_cons] at h2
    have ih := markIntSS_at l (p ++ [marksI v r.length]) (v + (r.length : Int)) (by omega) (by omega) (by rw [List.length_append, List.length_singleton]; omega)
    rw [List.length_append, List.length_singleton, List.append_assoc, List.append_assoc, List.singleton_append, List.singleton_append] at ih
    refine Ev.step (f := fun k => (laws_markIntS.f k r v).bind fun t => laws_markIntSS.l0 k (p ++ t.2 :: l) t.1 ((p.length + 1 : Nat) : Int)) (fun k => ?_) ?_
    · simp only [laws_markIntSS.l0]
      rw [if_pos (by rw [List.length_append, List.length_cons]; omega), if_pos (by omega), Int.toNat_natCast, wrap_id (by omega) (by omega)]
      have e1 : (p ++ r :: l).getD p.length [] = r := by simp
      rw [e1]
      congr 1
      funext t
      rw [show ((p.length : Int) + 1) = ((p.length + 1 : Nat) : Int) by omega]
      congr 1
      simp
    · refine Ev.bind (markIntS_ev r v (by omega) h0 (by omega)) ?_
      simp only [totR, markRows]
      rw [show v + ((r.length + totR l : Nat) : Int) = v + (r.length : Int) + (totR l : Int) by omega]
      exact ih
theorem markIntSS_ev (l : List (List Int)) (h : totR l ≤ 1048576) (h2 : l.length ≤ 1048576) : Ev (fun k => laws_markIntSS.f k l 1) (1 + (totR l : Int), markRows 1 l) := by
  have := markIntSS_at l [] 1 (by omega) (by omega) (by rw [List.length_nil]; omega)
  simpa [laws_markIntSS.f] using this
theorem heldIntSS_at : ∀ (l p : List (List Int)) (v : Int), 0 ≤ v → v + (totR l : Int) ≤ 1152921504606846976 → p.length + l.length ≤ 1152921504606846976 →
    Ev (fun k => laws_heldIntSS.l0 k (p ++ markRows v l) v (p.length : Int)) (v + (totR l : Int))
  | [], p, v, h0, h1, h2 => by
    refine Ev.step (f := fun _ => some v) (fun k => ?_) (by simpa [totR] using Ev.now v)
    simp only [laws_heldIntSS.l0]
    rw [if_neg (by simp [markRows])]
  | r :: l, p, v, h0, h1, h2 => by
    simp only [totR] at h1
    simp only [List.length_cons] at h2
    have ih := heldIntSS_at l (p ++ [marksI v r.length]) (v + (r.length : Int)) (by omega) (by omega) (by rw [List.length_append, List.length_singleton]; omega)
    rw [List.length_append, List.length_singleton, List.append_assoc, List.singleton_append] at ih
    show Ev (fun k => laws_heldIntSS.l0 k (p ++ marksI v r.length :: markRows (v + (r.length : Int)) l) v (p.length : Int)) (v + (totR (r :: l) : Int))
    refine Ev.step (f := fun k => (laws_heldIntS.f k (marksI v r.length) v).bind fun t => if t < 0 then some (-1) else laws_heldIntSS.l0 k (p ++ marksI v r.length :: markRows (v + (r.length : Int)) l) t ((p.length + 1 : Nat) : Int)) (fun k => ?_) ?_
    · simp only [laws_heldIntSS.l0]
      rw [if_pos (by rw [List.length_append, List.length_cons]; omega), if_pos (by omega), rdL_at (by rw [List.length_append, List.length_cons]; omega), wrap_id (by omega) (by omega)]
      rw [List.getElem_append_right (Nat.le_refl _)]
      simp
    · refine Ev.bind (heldIntS_ev r.length v (by omega) h0 (by omega)) ?_
      refine ev_if (fun q => by omega) (fun _ => ?_)
      simp only [totR]
      rw [show v + ((r.length + totR l : Nat) : Int) = v + (r.length : Int) + (totR l : Int) by omega]
      exact ih
theorem heldIntSS_ev (l : List (List Int)) (h : totR l ≤ 1048576) (h2 : l.length ≤ 1048576) : Ev (fun k => laws_heldIntSS.f k (markRows 1 l) 1) (1 + (totR l : Int)) := by
  have := heldIntSS_at l [] 1 (by omega) (by omega) (by rw [List.length_nil]; omega)
  simpa [laws_heldIntSS.f] using this
end Go.Proofs.YtbghhkdjcogpdaaDoor.Plain

/- The numbers of the bits that are set. No condition. -/
-- over bits_TrailingZeros16.f
namespace Go.Proofs.YtbghhkdjcogpdaaDoor.Plain
open Go.RowKit Go.Proofs.YtbghhkdjcogpdaaDoorW.PrintWords Go.Proofs.YtbghhkdjcogpdaaDoorW.PrintLast
set_option linter.unusedVariables false
open Q

theorem tz_low : ∀ (k m i : Nat), i < k → m.testBit i = true → (∀ j, j < i → m.testBit j = false) → tz k m = i
  | 0, _, _, h, _, _ => by omega
  | k + 1, m, i, h, h1, h2 => by
    unfold tz
    cases i with
    | zero =>
      rw [Nat.testBit_zero, decide_eq_true_eq] at h1
      rw [if_pos h1]
    | succ i =>
      have h0 := h2 0 (by omega)
      rw [Nat.testBit_zero, decide_eq_false_iff_not] at h0
      rw [if_neg h0, tz_low k (m / 2) i (by omega) (by rw [← Nat.testBit_succ]; exact h1) (fun j hj => by rw [← Nat.testBit_succ]; exact h2 (j + 1) (by omega))]

theorem clear_low {m t q : Nat} (h : m = 2 ^ t * (2 * q + 1)) (j : Nat) : (m &&& (m - 1)).testBit j = (m.testBit j && decide (j ≠ t)) := by
  have hp : 0 < 2 ^ t := Nat.two_pow_pos t
  have hm : m - 1 = 2 ^ t * (2 * q) + (2 ^ t - 1) := by rw [h, Nat.mul_add, Nat.mul_one]; omega
  rw [Nat.testBit_and, hm, Nat.testBit_two_pow_mul_add _ (by omega : 2 ^ t - 1 < 2 ^ t), Nat.testBit_two_pow_sub_one, h, Nat.testBit_two_pow_mul]
  by_cases c1 : j < t
  · rw [if_pos c1, decide_eq_false (show ¬ j ≥ t by omega)]; simp
  · rw [if_neg c1]
    by_cases c2 : j = t
    · subst c2; simp
    · obtain ⟨d, rfl⟩ : ∃ d, j = t + 1 + d := ⟨j - t - 1, by omega⟩
      rw [show t + 1 + d - t = d + 1 by omega]
      have a1 : (2 * q + 1).testBit (d + 1) = q.testBit d := by rw [Nat.testBit_succ, show (2 * q + 1) / 2 = q by omega]
      have a2 : (2 * q).testBit (d + 1) = q.testBit d := by rw [Nat.testBit_succ, show 2 * q / 2 = q by omega]
      rw [a1, a2, decide_eq_true (show t + 1 + d ≠ t by omega)]
      cases q.testBit d <;> simp

def restF (f : Nat → Bool) (i : Nat) : Nat → Bool := fun b => decide (i ≤ b) && f b
theorem rest_no {f : Nat → Bool} {i : Nat} (h : f i = false) : restF f i = restF f (i + 1) := by
  funext b
  unfold restF
  by_cases c : b = i
  · subst c; rw [h]; simp
  · rw [show decide (i ≤ b) = decide (i + 1 ≤ b) from decide_eq_decide.2 (by omega)]
theorem rest_yes {f : Nat → Bool} {n i : Nat} (hi : i < n) (hn : n ≤ 16) (h : f i = true) : tz 16 (maskOf (restF f i) n) = i ∧ maskOf (restF f i) n &&& (maskOf (restF f i) n - 1) = maskOf (restF f (i + 1)) n ∧ 0 < maskOf (restF f i) n := by
  have hb : (maskOf (restF f i) n).testBit i = true := by rw [maskOf_bit]; simp [restF, hi, h]
  have hl : ∀ j, j < i → (maskOf (restF f i) n).testBit j = false := by
    intro j hj
    rw [maskOf_bit]; simp [restF, show ¬ i ≤ j by omega]
  have h0 : 0 < maskOf (restF f i) n := by
    rcases Nat.eq_zero_or_pos (maskOf (restF f i) n) with c | c
    · rw [c, Nat.zero_testBit] at hb; cases hb
    · exact c
  have ht := tz_low 16 _ i (by omega) hb hl
  obtain ⟨t, q, _, h2, h3⟩ := tz_bit 16 (maskOf (restF f i) n) h0 (mask16 hn)
  have e : t = i := by rw [← h2]; exact ht
  subst e
  refine ⟨ht, ?_, h0⟩
  apply Nat.eq_of_testBit_eq
  intro j
  rw [clear_low h3, maskOf_bit, maskOf_bit]
  unfold restF
  by_cases c : j = t
  · rw [c, decide_eq_false (show ¬ t + 1 ≤ t by omega), decide_eq_false (show ¬ t ≠ t by simp)]; simp
  · rw [show decide (t ≤ j) = decide (t + 1 ≤ j) from decide_eq_decide.2 (by omega), decide_eq_true c, Bool.and_true]
end Go.Proofs.YtbghhkdjcogpdaaDoor.Plain

/- The program's list of the set bits. Stands apart from WalkS, which says the same: import only one of the two. -/
namespace Go.Proofs.YtbghhkdjcogpdaaDoor.Plain
open Go.RowKit Go.Proofs.YtbghhkdjcogpdaaDoorW.PrintWords Go.Proofs.YtbghhkdjcogpdaaDoorW.PrintLast
set_option linter.unusedVariables false
open Q

theorem listed_ev {n : Nat} (hn : n ≤ 16) (f : Nat → Bool) : Ev (fun k => impl_listed.f k ((maskOf f n : Nat) : Int)) (posL f n) := by
  have key : ∀ d i (out : List Int), n - i = d → i ≤ n → out.length ≤ i → Ev (fun k => impl_listed.l0 k ((maskOf (restF f i) n : Nat) : Int) out) (out ++ posFrom f n i) := by
    intro d
    induction d with
    | zero =>
      intro i out hd hi _
      obtain rfl : i = n := by omega
      have hz : maskOf (restF f i) i = 0 := by
        apply Nat.eq_of_testBit_eq
        intro j
        rw [maskOf_bit, Nat.zero_testBit]
        by_cases c : j < i
        · simp [restF, show ¬ i ≤ j by omega]
        · simp [c]
      rw [hz, posFrom_end _ (Nat.le_refl _), List.append_nil]
      exact Ev.step (f := fun _ => some out) (fun k => by simp only [impl_listed.l0]; rw [if_neg (by omega)]) (Ev.now _)
    | succ d ih =>
      intro i out hd hi ho
      have hi' : i < n := by omega
      rw [posFrom_step f hi']
      by_cases c : f i = true
      · obtain ⟨e1, e2, e3⟩ := rest_yes hi' hn c
        have hlt := mask16 (f := restF f i) hn
        have e4 : bits_TrailingZeros16.f ((maskOf (restF f i) n : Nat) : Int) = some (i : Int) := by
          unfold bits_TrailingZeros16.f
          rw [if_pos (by omega), if_neg (by omega), Int.toNat_natCast, e1]
        have e5 : IntKind.u16.wrap (((maskOf (restF f i) n : Nat) : Int) - 1) = ((maskOf (restF f i) n - 1 : Nat) : Int) := by
          rw [show ((maskOf (restF f i) n : Nat) : Int) - 1 = ((maskOf (restF f i) n - 1 : Nat) : Int) by omega]
          exact wraps_u16 _ (by omega) (by omega)
        rw [if_pos c, ← List.append_assoc]
        refine Ev.step (f := fun k => impl_listed.l0 k ((maskOf (restF f (i + 1)) n : Nat) : Int) (out ++ [(i : Int)])) (fun k => ?_) (ih (i + 1) _ (by omega) (by omega) (by simp; omega))
        simp only [impl_listed.l0]
        rw [if_pos (by omega), e4, Option.bind_some, if_pos (by omega), e5, and16 hlt (by omega), e2]
      · have c' : f i = false := by simpa using c
        rw [if_neg c, List.nil_append, rest_no c']
        exact ih (i + 1) out (by omega) (by omega) (by omega)
  have e : maskOf f n = maskOf (restF f 0) n := maskOf_congr (fun b _ => by simp [restF])
  rw [e]
  exact key n 0 [] (by omega) (by omega) (by simp)
end Go.Proofs.YtbghhkdjcogpdaaDoor.Plain
/- The program's NewsAfter returns what the reference's returns, for all arguments. No condition. -/
namespace Go.Proofs.YtbghhkdjcogpdaaDoor.Pure
open Go.RowKit Go.Proofs.YtbghhkdjcogpdaaDoorW.PrintWords Go.Proofs.YtbghhkdjcogpdaaDoorW.PrintLast
set_option linter.unusedVariables false
open Q Plain

theorem szPairS_eq (l : List Lp) (a : Int) (h0 : 0 ≤ a) (h1 : a ≤ 1048576) (h : l.length ≤ 9223372036854775807) : laws_szPairS.f l a = some (if a < (l.length : Int) then -1 else a - l.length) := by
  unfold laws_szPairS.f
  rw [wrap_id (by omega) (by omega)]
  by_cases hl : a < (l.length : Int)
  · rw [if_pos (by omega), if_pos hl]
  · rw [if_neg (by omega), if_neg hl]
theorem totR_le : ∀ (l : List (List Int)) (m : Nat), (∀ x ∈ l, x.length ≤ m) → totR l ≤ l.length * m
  | [], m, _ => by simp [totR]
  | r :: l, m, h => by
    have h1 := h r (by simp)
    have h2 := totR_le l m (fun x hx => h x (by simp [hx]))
    simp only [totR, List.length_cons]
    rw [Nat.succ_mul]
    omega

def tell (n : Int) (l : List Pr) : List (List Int) × Bool := if callsB n l = true then (listF n.toNat (knows l), true) else ([], false)
theorem tell_len (n : Int) (l : List Pr) : (tell n l).1.length ≤ 12 ∧ (∀ x ∈ (tell n l).1, x.length ≤ 12) := by
  unfold tell
  by_cases p : callsB n l = true
  · rw [if_pos p]
    obtain ⟨m, rfl, h1, h2, h3, h4⟩ := calls_nat p
    refine ⟨by rw [listF_length]; omega, fun x hx => ?_⟩
    unfold listF at hx
    obtain ⟨a, _, rfl⟩ := List.mem_map.1 hx
    have := posL_le (knows l a) m
    simp only [Int.toNat_natCast]
    omega
  · rw [if_neg p]; exact ⟨by simp, by simp⟩
theorem impl_ev (n : Int) (l : List Pr) (h : l.length ≤ 1048576) : Ev (fun k => impl_NewsAfter.f k n l) (tell n l) := by
  unfold impl_NewsAfter.f tell
  by_cases hc : callsB n l = true
  · obtain ⟨m, rfl, h1, h2, h3, h4⟩ := calls_nat hc
    rw [if_pos hc]
    refine Ev.congr (f := fun k => (impl_news.f k (m : Int) l).bind fun t => impl_NewsAfter.l0 k ([] : List (List Int)) t (t.length : Int) 0) (fun k => ?_) ?_
    · rw [areCalls_eq, hc, Option.bind_some, if_pos rfl]
    · refine Ev.bind (news_ev h2 h4 (by omega)) ?_
      rw [tabF_length, Int.toNat_natCast]
      have q := ev_up (n := m) (loop := fun k i => impl_NewsAfter.l0 k ((listF m (knows l)).take i) (tabF m (knows l)) (m : Int) (i : Int)) (r := fun _ => (listF m (knows l), true))
        (Ev.step (f := fun _ => some (listF m (knows l), true)) (fun k => by
          simp only [impl_NewsAfter.l0]
          rw [if_neg (by omega), List.take_of_length_le (by rw [listF_length]; omega)]) (Ev.now _))
        (fun i hi ih => by
          have e : (listF m (knows l)).take i ++ [posL (knows l i) m] = (listF m (knows l)).take (i + 1) := by
            rw [List.take_succ_eq_append_getElem (by rw [listF_length]; exact hi)]
            simp [listF]
          refine Ev.step (f := fun k => (impl_listed.f k ((maskOf (knows l i) m : Nat) : Int)).bind fun t => impl_NewsAfter.l0 k ((listF m (knows l)).take i ++ [t]) (tabF m (knows l)) (m : Int) ((i + 1 : Nat) : Int)) (fun k => ?_) ?_
          · simp only [impl_NewsAfter.l0]
            rw [if_pos (by omega), if_pos (by omega), if_pos (by rw [tabF_length]; omega), tabF_get hi, succ_cast hi (by omega)]
            congr 1
            funext t
            rw [if_pos (by rw [List.length_take, listF_length]; omega)]
          · refine Ev.bind (listed_ev (by omega) (knows l i)) ?_
            rw [e]
            exact ih) 0 (Nat.zero_le _)
      simpa using q
  · rw [if_neg hc]
    refine Ev.congr (f := fun _ => some ([], false)) (fun k => ?_) (Ev.now _)
    rw [areCalls_eq, Option.bind_some, if_neg hc]
theorem spec_ev (n : Int) (l : List Pr) (h : l.length ≤ 1048576) : Ev (fun k => spec_NewsAfter.f k n l) (tell n l) := by
  unfold spec_NewsAfter.f tell
  refine Ev.bind (haCalls_ev n l (by omega)) ?_
  refine ev_if (fun hc => ?_) (fun hc => by rw [if_neg hc]; exact Ev.now _)
  rw [if_pos hc]
  obtain ⟨m, rfl, h1, h2, h3, h4⟩ := calls_nat hc
  refine Ev.bind (haNews_ev h2 h4 (by omega)) ?_
  exact Ev.now _
theorem FnExactNewsAfter : laws_FnExactNewsAfter.Pure := by
  intro n l _ hl _
  refine Ev.rounds (g := fun k => laws_FnExactNewsAfter.f k n l) ?_
  unfold laws_FnExactNewsAfter.f
  refine ev_bind0 (szPairS_eq l 1048576 (by omega) (by omega) hl) ?_
  refine ev_if (fun _ => Ev.now _) (fun hb => ?_)
  have hs : l.length ≤ 1048576 := by
    by_cases h : (1048576 : Int) < (l.length : Int)
    · rw [if_pos h] at hb; omega
    · omega
  have hTl := toPairS_ev l (by omega)
  have hl2 : (l.map toP).length ≤ 1048576 := by rw [List.length_map]; exact hs
  have hS := spec_ev n (l.map toP) (by omega)
  have hI := impl_ev n (l.map toP) (by omega)
  have hp := tell_len n (l.map toP)
  generalize tell n (l.map toP) = z at hS hI hp
  obtain ⟨ps, ok1⟩ := z
  obtain ⟨hp1, hp2⟩ := hp
  replace hp1 : ps.length ≤ 12 := hp1
  replace hp2 : ∀ x ∈ ps, x.length ≤ 12 := hp2
  have ht : totR ps ≤ 144 := Nat.le_trans (totR_le ps 12 hp2) (by omega)
  have hE := eqIntSS_ev ps (by omega) (fun x hx => by have := hp2 x hx; omega)
  have hM := markIntSS_ev ps (by omega) (by omega)
  have hH := heldIntSS_ev ps (by omega) (by omega)
  refine Ev.bind hTl ?_
  refine Ev.bind hS ?_
  refine Ev.bind hTl ?_
  refine Ev.bind hI ?_
  refine Ev.bind hE ?_
  refine ev_if (fun _ => ?_) (fun h => absurd rfl h)
  show Ev (fun k => laws_FnExactNewsAfter.j0 k n l ps ok1 (l.map toP) ps ok1 (ok1 != ok1)) true
  rw [show (ok1 != ok1) = false by simp]
  refine Ev.step (f := fun k => (laws_toPairS.f k l).bind fun t258 => ((laws_eqPairS.f k (l.map toP) t258).bind fun t261 => (if t261 = true then ((laws_markPairS.f k (l.map toP) 1).bind fun bt262 => (if bt262.1 < 0 then (laws_FnExactNewsAfter.j1 k n l ps ok1 ps true) else ((laws_eqIntSS.f k ps ps).bind fun t264 => (if t264 = true then (laws_FnExactNewsAfter.j1 k n l ps ok1 ps (ok1 != ok1)) else (laws_FnExactNewsAfter.j1 k n l ps ok1 ps true))))) else (some false)))) (fun k => by simp only [laws_FnExactNewsAfter.j0]; rfl) ?_
  refine Ev.bind hTl ?_
  refine Ev.bind (eqPairS_ev (l.map toP) (by simp only [List.length_map]; omega)) ?_
  refine ev_if (fun _ => ?_) (fun h => absurd rfl h)
  refine Ev.bind (markPairS_ev (l.map toP) 1 (by simp only [List.length_map]; omega) (by omega) (by omega)) ?_
  refine ev_if (fun (q : (1 + 2 * ((l.map toP).length : Int)) < 0) => by omega) (fun _ => ?_)
  refine Ev.bind hE ?_
  refine ev_if (fun _ => ?_) (fun h => absurd rfl h)
  show Ev (fun k => laws_FnExactNewsAfter.j1 k n l ps ok1 ps (ok1 != ok1)) true
  rw [show (ok1 != ok1) = false by simp]
  refine Ev.step (f := fun k => (laws_markIntSS.f k ps 1).bind fun bt265 => ((laws_heldIntSS.f k bt265.2 1).bind fun t266 => (if t266 < 0 then (some false) else (if t266 = bt265.1 then ((laws_toPairS.f k l).bind fun t267 => ((impl_NewsAfter.f k n t267).bind fun bt270 => ((laws_eqIntSS.f k bt270.1 ps).bind fun t274 => (if t274 = true then (laws_FnExactNewsAfter.j2 k bt265.2 bt265.1 (bt270.2 != ok1)) else (laws_FnExactNewsAfter.j2 k bt265.2 bt265.1 true))))) else (some false))))) (fun k => by simp only [laws_FnExactNewsAfter.j1]; rfl) ?_
  refine Ev.bind hM ?_
  refine Ev.bind hH ?_
  refine ev_if (fun (q : (1 + (totR ps : Int)) < 0) => by omega) (fun _ => ?_)
  refine ev_if (fun _ => ?_) (fun h => absurd rfl h)
  refine Ev.bind hTl ?_
  refine Ev.bind hI ?_
  refine Ev.bind hE ?_
  refine ev_if (fun _ => ?_) (fun h => absurd rfl h)
  show Ev (fun k => laws_FnExactNewsAfter.j2 k (markRows 1 ps) (1 + (totR ps : Int)) (ok1 != ok1)) true
  rw [show (ok1 != ok1) = false by simp]
  refine Ev.step (f := fun k => (laws_heldIntSS.f k (markRows 1 ps) 1).bind fun t278 => (if t278 < 0 then (some false) else (if t278 = (1 + (totR ps : Int)) then (some true) else (some false)))) (fun k => by simp only [laws_FnExactNewsAfter.j2]; rfl) ?_
  refine Ev.bind hH ?_
  refine ev_if (fun (q : (1 + (totR ps : Int)) < 0) => by omega) (fun _ => ?_)
  refine ev_if (fun _ => ?_) (fun h => absurd rfl h)
  exact Ev.now _
end Go.Proofs.YtbghhkdjcogpdaaDoor.Pure
