import Derived.Test.YtipblaifgpnebaaQ0
import Derived.Test.YtipblaifgpnebaaQ2
import Derived.Test.YtipblaifgpnebaaQ3
import Derived.Test.YtipblaifgpnebaaQ6
import Derived.Test.YtipblaifgpnebaaQ12
import Derived.Test.YtipblaifgpnebaaQ17
import Derived.Test.YtipblaifgpnebaaQ18
import Derived.Test.YtipblaifgpnebaaQ23
import Derived.Test.YtipblaifgpnebaaQ29
import Derived.Test.YtipblaifgpnebaaQ32
import Derived.Test.YtipblaifgpnebaaQ59
import Derived.Test.YtipblaifgpnebaaQ64
import Derived.Test.YtipblaifgpnebaaQ65
import Derived.Test.YtipblaifgpnebaaQ66
import Derived.Test.YtipblaifgpnebaaQ68
import Derived.Test.YtipblaifgpnebaaQ70
import Derived.Test.YtipblaifgpnebaaQ81
import Derived.Test.YtipblaifgpnebaaQ83
import Derived.Test.YtipblaifgpnebaaQ89
import Derived.Test.YtipblaifgpnebaaSayFnExactLinesOf
/- Plain lemmas over rounds, lists and whole numbers, for the pure statements of this seat. No condition. -/
namespace Go.Proofs.Ytipblaifgpnebaa.Plain
open Go.RowKit Go.Proofs.YtipblaifgpnebaaW.PrintWords Go.Proofs.YtipblaifgpnebaaW.PrintLast
set_option linter.unusedVariables false

theorem wrap_id {x : Int} (h0 : -9223372036854775808 ≤ x) (h1 : x ≤ 9223372036854775807) : wrap64 x = x := by
  unfold wrap64
  omega

theorem rd_at {l : List Int} {i : Nat} (h : i < l.length) : rd l (i : Int) = l[i] := by
  simp [rd, List.getD, h]

theorem ev_some {α : Type} {g : Nat → Option α} {r : α} (h : ∀ k, g k = some r) : Ev g r := ⟨0, fun k _ => h k⟩

theorem ev_bind0 {α β : Type} {g : Option α} {f : Nat → α → Option β} {a : α} {r : β} (h : g = some a) (k : Ev (fun n => f n a) r) : Ev (fun n => g.bind (f n)) r := by
  obtain ⟨K, hK⟩ := k
  refine ⟨K, fun n hn => ?_⟩
  show g.bind (f n) = some r
  rw [h]
  exact hK n hn

theorem ev_if {α : Type} {c : Prop} [Decidable c] {f g : Nat → Option α} {r : α} (hf : c → Ev f r) (hg : ¬ c → Ev g r) : Ev (fun n => if c then f n else g n) r := by
  by_cases h : c
  · obtain ⟨K, hK⟩ := hf h
    exact ⟨K, fun n hn => (if_pos h).trans (hK n hn)⟩
  · obtain ⟨K, hK⟩ := hg h
    exact ⟨K, fun n hn => (if_neg h).trans (hK n hn)⟩

/-- A loop over an index, from any index on, in one shape. -/
theorem ev_up {α : Type} {n : Nat} {loop : Nat → Nat → Option α} {r : Nat → α} (hend : Ev (fun k => loop k n) (r n)) (hstep : ∀ i, i < n → (Ev (fun k => loop k (i + 1)) (r (i + 1)) → Ev (fun k => loop k i) (r i))) :
    ∀ i, i ≤ n → Ev (fun k => loop k i) (r i) := by
  intro i hi
  have : ∀ d i, i ≤ n → n - i = d → Ev (fun k => loop k i) (r i) := by
    intro d
    induction d with
    | zero =>
      intro i hi hd
      have e : i = n := by omega
      rw [e]; exact hend
    | succ d ih =>
      intro i hi hd
      exact hstep i (by omega) (ih (i + 1) (by omega) (by omega))
  exact this (n - i) i hi rfl
theorem all_step (f : Nat → Bool) {m i : Nat} (h : i < m) : ((List.range m).drop i).all f = (f i && ((List.range m).drop (i + 1)).all f) := by
  rw [List.drop_eq_getElem_cons (by simpa using h), List.all_cons, List.getElem_range]
theorem all_end (f : Nat → Bool) {m i : Nat} (h : m ≤ i) : ((List.range m).drop i).all f = true := by
  rw [List.drop_of_length_le (by simpa using h)]; rfl
theorem succ_cast {i n : Nat} (h : i < n) (hn : n ≤ 9223372036854775807) : wrap64 ((i : Int) + 1) = ((i + 1 : Nat) : Int) := by
  rw [wrap_id (by omega) (by omega)]; rfl
theorem pred_cast {i : Nat} (h : 1 ≤ i) (hn : i ≤ 9223372036854775807) : wrap64 ((i : Int) - 1) = ((i - 1 : Nat) : Int) := by
  rw [wrap_id (by omega) (by omega)]; omega
end Go.Proofs.Ytipblaifgpnebaa.Plain

/- The law's own functions over lists of whole numbers: copies, equality, bounds. No condition but lengths that fit. -/
namespace Go.Proofs.Ytipblaifgpnebaa.Plain
open Go.RowKit Go.Proofs.YtipblaifgpnebaaW.PrintWords Go.Proofs.YtipblaifgpnebaaW.PrintLast
set_option linter.unusedVariables false
open Q

theorem l1In_eq (a b c : Int) : spec_l1In.f a b c = some (decide (b ≤ a) && decide (a ≤ c)) := by
  unfold spec_l1In.f
  by_cases h : b ≤ a <;> simp [h]

theorem within_eq (a b c : Int) : impl_within.f a b c = some (decide (b ≤ a) && decide (a ≤ c)) := by
  unfold impl_within.f
  by_cases h : b ≤ a <;> simp [h]

end Go.Proofs.Ytipblaifgpnebaa.Plain

/- Parties: both sides' tests, and the law's own functions over parties. No condition but lengths that fit. -/
namespace Go.Proofs.Ytipblaifgpnebaa.Plain
open Go.RowKit Go.Proofs.YtipblaifgpnebaaW.PrintWords Go.Proofs.YtipblaifgpnebaaW.PrintLast
set_option linter.unusedVariables false
open Q

abbrev Pr := S63
abbrev rdP (l : List Pr) (i : Int) : Pr := rd_T63 l i

theorem rdP_at {l : List Pr} {i : Nat} (h : i < l.length) : rd_T63 l (i : Int) = l[i] := by
  simp [rd_T63, List.getD, h]

def pairOk (n : Int) (x : Pr) : Bool := decide (0 ≤ x.f0) && (decide (x.f0 < x.f1) && decide (x.f1 < n))
def lessB (x y : Pr) : Bool := decide (x.f0 < y.f0) || (decide (x.f0 = y.f0) && decide (x.f1 < y.f1))
/-- The pair at an index is right, and comes behind the one before. -/
def okAt (n : Int) (l : List Pr) (i : Nat) : Bool := pairOk n (rdP l i) && (decide (i = 0) || lessB (rdP l ((i : Int) - 1)) (rdP l i))
def party (n : Int) (l : List Pr) : Bool := (decide (0 ≤ n) && decide (n ≤ 12)) && (List.range l.length).all (okAt n l)

theorem paLess_eq (x y : Pr) : spec_paLess.f x.f0 x.f1 y.f0 y.f1 = some (lessB x y) := by
  unfold spec_paLess.f lessB
  by_cases h : x.f0 < y.f0
  · rw [if_pos h, decide_eq_true h]; rfl
  · rw [if_neg h, decide_eq_false h]
    by_cases h2 : x.f0 = y.f0
    · rw [if_pos h2, decide_eq_true h2]; simp
    · rw [if_neg h2, decide_eq_false h2]; simp

/-- Compared as the library compares whole numbers. -/
def cmpI (a b : Int) : Int := if a < b then -1 else if a > b then 1 else 0
theorem compare_eq (a b : Int) : cmp_Compare_int.f a b = some (cmpI a b) := by
  unfold cmp_Compare_int.f cmp_isNaN_int.f cmpI
  simp
  by_cases h : a < b
  · simp [h]
  · by_cases h2 : b < a <;> simp [h, h2]

theorem or_two (a b : Int) : Ev (fun k => cmp_Or_int.f k [a, b]) (if a = 0 then b else a) := by
  refine Ev.of (fun k => cmp_Or_int.mono [a, b] k) (k := 3) ?_
  by_cases h : a = 0
  · by_cases h2 : b = 0
    · simp [cmp_Or_int.f, cmp_Or_int.l0, rd, h, h2, wrap64]
    · simp [cmp_Or_int.f, cmp_Or_int.l0, rd, h, h2, wrap64]
  · simp [cmp_Or_int.f, cmp_Or_int.l0, rd, h]

theorem comparePairs_ev (x y : Pr) : Ev (fun k => impl_comparePairs.f k x.f0 x.f1 y.f0 y.f1) (if cmpI x.f0 y.f0 = 0 then cmpI x.f1 y.f1 else cmpI x.f0 y.f0) := by
  unfold impl_comparePairs.f
  refine ev_bind0 (compare_eq _ _) ?_
  refine ev_bind0 (compare_eq _ _) ?_
  exact Ev.bind (f := fun _ t => some t) (or_two _ _) (Ev.now _)

theorem compare_less (x y : Pr) : ((if cmpI x.f0 y.f0 = 0 then cmpI x.f1 y.f1 else cmpI x.f0 y.f0) ≥ 0) ↔ lessB x y = false := by
  unfold cmpI lessB
  by_cases h1 : x.f0 < y.f0
  · simp [h1]
  · by_cases h2 : y.f0 < x.f0
    · have : ¬ x.f0 = y.f0 := by omega
      simp [h1, h2, this]
    · have e : x.f0 = y.f0 := by omega
      by_cases h3 : x.f1 < y.f1
      · simp [e, h3]
      · by_cases h4 : y.f1 < x.f1 <;> simp [e, h3, h4]

theorem areCrowd_eq (n : Int) : impl_areCrowd.f n = some (decide (0 ≤ n) && decide (n ≤ 12)) := by
  unfold impl_areCrowd.f
  rw [within_eq]; rfl

theorem isParty_ev (n : Int) (l : List Pr) (h : l.length ≤ 9223372036854775807) : Ev (fun k => impl_IsParty.f k n l) (party n l) := by
  have q := ev_up (n := l.length) (loop := fun k i => impl_IsParty.l0 k l (l.length : Int) (i : Int) n l) (r := fun i => (decide (0 ≤ n) && decide (n ≤ 12)) && ((List.range l.length).drop i).all (okAt n l))
    (Ev.step (f := fun _ => some (decide (0 ≤ n) && decide (n ≤ 12))) (fun k => by
        simp only [impl_IsParty.l0]
        rw [if_neg (by omega), areCrowd_eq]; rfl) (by rw [all_end _ (Nat.le_refl _), Bool.and_true]; exact Ev.now _))
    (fun i hi ih => by
      rw [all_step (okAt n l) hi]
      have e0 : okAt n l i = (pairOk n l[i] && (decide (i = 0) || lessB (rdP l ((i : Int) - 1)) l[i])) := by
        unfold okAt rdP; rw [rdP_at hi]
      by_cases a1 : l[i].f0 < 0
      · have e : okAt n l i = false := by rw [e0]; simp [pairOk]; omega
        rw [e]
        refine Ev.step (f := fun _ => some false) (fun k => ?_) (by simpa using Ev.now false)
        simp only [impl_IsParty.l0]
        rw [if_pos (by omega), if_pos (by omega), if_pos (by omega), rdP_at hi, if_pos a1]
      by_cases a2 : l[i].f0 ≥ l[i].f1
      · have e : okAt n l i = false := by rw [e0]; simp [pairOk]; omega
        rw [e]
        refine Ev.step (f := fun _ => some false) (fun k => ?_) (by simpa using Ev.now false)
        simp only [impl_IsParty.l0]
        rw [if_pos (by omega), if_pos (by omega), if_pos (by omega), rdP_at hi, if_neg a1, if_pos a2]
      by_cases a3 : l[i].f1 ≥ n
      · have e : okAt n l i = false := by rw [e0]; simp [pairOk]; omega
        rw [e]
        refine Ev.step (f := fun _ => some false) (fun k => ?_) (by simpa using Ev.now false)
        simp only [impl_IsParty.l0]
        rw [if_pos (by omega), if_pos (by omega), if_pos (by omega), rdP_at hi, if_neg a1, if_neg a2, if_pos a3]
      have ep : pairOk n l[i] = true := by simp [pairOk]; omega
      by_cases a4 : i = 0
      · have e : okAt n l i = true := by rw [e0, ep, decide_eq_true a4]; simp
        rw [e]
        refine Ev.step (f := fun k => impl_IsParty.l0 k l (l.length : Int) ((i + 1 : Nat) : Int) n l) (fun k => ?_) (by simpa using ih)
        simp only [impl_IsParty.l0]
        rw [if_pos (by omega), if_pos (by omega), if_pos (by omega), rdP_at hi, if_neg a1, if_neg a2, if_neg a3, if_neg (by omega), succ_cast hi h]
      · have ew : wrap64 ((i : Int) - 1) = ((i - 1 : Nat) : Int) := by rw [wrap_id (by omega) (by omega)]; omega
        have ew2 : ((i : Int) - 1) = ((i - 1 : Nat) : Int) := by omega
        have e : okAt n l i = lessB l[i-1] l[i] := by
          rw [e0, ep, decide_eq_false a4, ew2]
          unfold rdP
          rw [rdP_at (by omega)]; simp
        rw [e]
        refine Ev.step (f := fun k => (impl_comparePairs.f k l[i-1].f0 l[i-1].f1 l[i].f0 l[i].f1).bind fun t => if t ≥ 0 then some false else impl_IsParty.l0 k l (l.length : Int) ((i + 1 : Nat) : Int) n l) (fun k => ?_) ?_
        · simp only [impl_IsParty.l0]
          rw [if_pos (by omega), if_pos (by omega), if_pos (by omega), rdP_at hi, if_neg a1, if_neg a2, if_neg a3, if_pos (by omega), if_pos (by omega), if_pos (by omega), ew, rdP_at (by omega : i - 1 < l.length), succ_cast hi h]
        · refine Ev.bind (comparePairs_ev _ _) ?_
          refine ev_if (fun b => ?_) (fun b => ?_)
          · rw [(compare_less _ _).mp b]; simpa using Ev.now false
          · have : lessB l[i-1] l[i] = true := by
              cases hb : lessB l[i-1] l[i] with
              | true => rfl
              | false => exact absurd ((compare_less _ _).mpr hb) b
            rw [this]; simpa using ih) 0 (Nat.zero_le _)
  simpa [impl_IsParty.f, party] using q

/-! What a party is, in words of numbers. -/
theorem party_of {n : Int} {l : List Pr} (h : party n l = true) : 0 ≤ n ∧ n ≤ 12 ∧ (∀ i, (hi : i < l.length) → 0 ≤ l[i].f0 ∧ l[i].f0 < l[i].f1 ∧ l[i].f1 < n) ∧ (∀ i, (hi : i + 1 < l.length) → lessB l[i] l[i+1] = true) := by
  unfold party at h
  simp only [Bool.and_eq_true, decide_eq_true_eq, List.all_eq_true, List.mem_range] at h
  obtain ⟨⟨h1, h2⟩, h3⟩ := h
  refine ⟨h1, h2, fun i hi => ?_, fun i hi => ?_⟩
  · have q := h3 i hi
    unfold okAt rdP at q
    rw [rdP_at hi] at q
    simp only [Bool.and_eq_true, pairOk, decide_eq_true_eq] at q
    exact q.1
  · have q := h3 (i + 1) hi
    unfold okAt rdP at q
    rw [show (((i + 1 : Nat) : Int) - 1) = ((i : Nat) : Int) by omega, rdP_at hi, rdP_at (by omega : i < l.length)] at q
    simpa using (Bool.and_eq_true _ _ ▸ q).2
end Go.Proofs.Ytipblaifgpnebaa.Plain

/- A party as a relation between people; sets of people as numbers; how many hold. Plain lemmas. No condition. -/
namespace Go.Proofs.Ytipblaifgpnebaa.Plain
open Go.RowKit Go.Proofs.YtipblaifgpnebaaW.PrintWords Go.Proofs.YtipblaifgpnebaaW.PrintLast
set_option linter.unusedVariables false
open Q

/-- Are two people friends. -/
def adj (l : List Pr) (a b : Nat) : Bool := l.any fun x => (decide (x.f0 = (a : Int)) && decide (x.f1 = (b : Int))) || (decide (x.f0 = (b : Int)) && decide (x.f1 = (a : Int)))

theorem adj_nil (a b : Nat) : adj [] a b = false := rfl
theorem adj_snoc (l : List Pr) (x : Pr) (a b : Nat) : adj (l ++ [x]) a b = (adj l a b || ((decide (x.f0 = (a : Int)) && decide (x.f1 = (b : Int))) || (decide (x.f0 = (b : Int)) && decide (x.f1 = (a : Int))))) := by
  unfold adj
  rw [List.any_append]
  simp
/-- All pairs are right for n people. -/
def Right (n : Nat) (l : List Pr) : Prop := ∀ x ∈ l, 0 ≤ x.f0 ∧ x.f0 < x.f1 ∧ x.f1 < (n : Int)
theorem Right.take {n : Nat} {l : List Pr} (h : Right n l) (i : Nat) : Right n (l.take i) := fun x hx => h x (List.mem_of_mem_take hx)

theorem lessB_trans {x y z : Pr} (h1 : lessB x y = true) (h2 : lessB y z = true) : lessB x z = true := by
  unfold lessB at *
  simp only [Bool.or_eq_true, Bool.and_eq_true, decide_eq_true_eq] at *
  omega
theorem sorted_lt {l : List Pr} (h : ∀ i, (hi : i + 1 < l.length) → lessB l[i] l[i+1] = true) : ∀ d i, (hi : i + 1 + d < l.length) → lessB l[i] l[i + 1 + d] = true := by
  intro d
  induction d with
  | zero => intro i hi; exact h i hi
  | succ d ih =>
    intro i hi
    have q := ih i (by omega)
    have q2 := h (i + 1 + d) (by omega)
    exact lessB_trans q q2

/-- What a right party tells: people from 0 to 12, right pairs, in order. -/
theorem party_right {n : Int} {l : List Pr} (h : party n l = true) : ∃ m : Nat, n = (m : Int) ∧ m ≤ 12 ∧ Right m l ∧ (∀ i j, (hj : j < l.length) → (hij : i < j) → lessB l[i] l[j] = true) := by
  obtain ⟨h1, h2, h3, h4⟩ := party_of h
  refine ⟨n.toNat, by omega, by omega, fun x hx => ?_, fun i j hj hij => ?_⟩
  · obtain ⟨i, hi, rfl⟩ := List.getElem_of_mem hx
    have := h3 i hi
    omega
  · have := sorted_lt h4 (j - i - 1) i (by omega)
    have e : i + 1 + (j - i - 1) = j := by omega
    simpa only [e] using this

/-! Sets of people as numbers. -/
def maskOf (f : Nat → Bool) : Nat → Nat
  | 0 => 0
  | n + 1 => maskOf f n + (if f n = true then 2 ^ n else 0)

theorem maskOf_lt (f : Nat → Bool) : ∀ n, maskOf f n < 2 ^ n
  | 0 => by simp [maskOf]
  | n + 1 => by
    have := maskOf_lt f n
    unfold maskOf
    rw [Nat.pow_succ]
    split <;> omega

theorem maskOf_bit (f : Nat → Bool) : ∀ n b, (maskOf f n).testBit b = (decide (b < n) && f b)
  | 0, b => by simp [maskOf]
  | n + 1, b => by
    have ih := maskOf_bit f n b
    have hlt := maskOf_lt f n
    unfold maskOf
    by_cases h : f n = true
    · rw [if_pos h, Nat.add_comm]
      rcases Nat.lt_trichotomy b n with hb | rfl | hb
      · rw [Nat.testBit_two_pow_add_gt hb, ih]
        simp [hb, Nat.lt_succ_of_lt hb]
      · rw [Nat.testBit_two_pow_add_eq, Nat.testBit_lt_two_pow hlt]
        simp [h]
      · have h1 : 2 ^ (n + 1) ≤ 2 ^ b := Nat.pow_le_pow_right (by omega) (by omega)
        rw [Nat.pow_succ] at h1
        rw [Nat.testBit_lt_two_pow (by omega)]
        simp; omega
    · rw [if_neg h, Nat.add_zero, ih]
      by_cases e : b = n
      · subst e
        simp [Bool.eq_false_iff.mpr h]
      · have : decide (b < n + 1) = decide (b < n) := by
          apply decide_eq_decide.mpr; omega
        rw [this]

theorem maskOf_congr {f g : Nat → Bool} : ∀ {n}, (∀ b, b < n → f b = g b) → maskOf f n = maskOf g n
  | 0, _ => rfl
  | n + 1, h => by
    unfold maskOf
    rw [maskOf_congr (n := n) (fun b hb => h b (by omega)), h n (by omega)]

theorem mask_or (f g : Nat → Bool) (n : Nat) : maskOf f n ||| maskOf g n = maskOf (fun b => f b || g b) n := by
  apply Nat.eq_of_testBit_eq
  intro b
  rw [Nat.testBit_or, maskOf_bit, maskOf_bit, maskOf_bit]
  cases decide (b < n) <;> simp
theorem mask_one {n b : Nat} (h : b < n) : (2 ^ b : Nat) = maskOf (fun c => decide (c = b)) n := by
  apply Nat.eq_of_testBit_eq
  intro c
  rw [Nat.testBit_two_pow, maskOf_bit]
  by_cases e : b = c
  · subst e; simp [h]
  · have : ¬ (c = b) := fun q => e q.symm
    simp [e, this]

/-! How many hold. -/
end Go.Proofs.Ytipblaifgpnebaa.Plain

/- The program's table of a party: for each person its friends, as the bits of a number. No condition but lengths that fit. -/
namespace Go.Proofs.Ytipblaifgpnebaa.Plain
open Go.RowKit Go.Proofs.YtipblaifgpnebaaW.PrintWords Go.Proofs.YtipblaifgpnebaaW.PrintLast
set_option linter.unusedVariables false
open Q

theorem wraps_u16 (n : Int) (h₀ : 0 ≤ n) (h₁ : n < 2 ^ 16) : IntKind.u16.wrap n = n := by
  have : IntKind.u16.wrap n = n % 65536 := by simp [IntKind.wrap, IntKind.bits, IntKind.signed]
  rw [this]; omega
theorem or16 {a b : Nat} (ha : a < 2 ^ 16) (hb : b < 2 ^ 16) : Go.bits .or .u16 (a : Int) (b : Int) = ((a ||| b : Nat) : Int) := (bits_nat .u16 16 (by decide) wraps_u16 a b ha hb).2
theorem and16 {a b : Nat} (ha : a < 2 ^ 16) (hb : b < 2 ^ 16) : Go.bits .and .u16 (a : Int) (b : Int) = ((a &&& b : Nat) : Int) := (bits_nat .u16 16 (by decide) wraps_u16 a b ha hb).1
theorem shl16 {b : Nat} (hb : b < 16) : shl .u16 1 (b : Int) = ((2 ^ b : Nat) : Int) := by
  unfold shl
  have h1 : min ((b : Int)).toNat IntKind.u16.bits = b := by
    rw [Int.toNat_natCast]
    exact Nat.min_eq_left (by show b ≤ 16; omega)
  rw [h1, Int.one_mul, wraps_u16]
  · simp
  · exact Int.pow_nonneg (by decide)
  · have : (2 : Nat) ^ b < 2 ^ 16 := Nat.pow_lt_pow_right (by omega) hb
    exact_mod_cast this

/-- The table of a relation of n people. -/
def tabF (n : Nat) (f : Nat → Nat → Bool) : List Int := (List.range n).map fun a => ((maskOf (f a) n : Nat) : Int)
theorem tabF_length (n : Nat) (f : Nat → Nat → Bool) : (tabF n f).length = n := by simp [tabF]
theorem tabF_get {n : Nat} {f : Nat → Nat → Bool} {a : Nat} (h : a < n) : rd (tabF n f) (a : Int) = ((maskOf (f a) n : Nat) : Int) := by
  rw [rd_at (by rw [tabF_length]; exact h)]
  simp [tabF]
theorem mask16 {f : Nat → Bool} {n : Nat} (h : n ≤ 16) : maskOf f n < 2 ^ 16 := Nat.lt_of_lt_of_le (maskOf_lt f n) (Nat.pow_le_pow_right (by omega) h)

/-- The relation with two people made friends. -/
def withP (f : Nat → Nat → Bool) (a b : Nat) : Nat → Nat → Bool := fun c d => f c d || ((decide (c = a) && decide (d = b)) || (decide (c = b) && decide (d = a)))

/-- One pair put into the table, as both the loop and 'put' do it. -/
theorem tab_put {n : Nat} (hn : n ≤ 16) (f : Nat → Nat → Bool) {a b : Nat} (ha : a < n) (hb : b < n) (hab : a ≠ b) :
    ((tabF n f).set a (Go.bits .or .u16 (rd (tabF n f) (a : Int)) (shl .u16 1 (b : Int)))).set b
      (Go.bits .or .u16 (rd ((tabF n f).set a (Go.bits .or .u16 (rd (tabF n f) (a : Int)) (shl .u16 1 (b : Int)))) (b : Int)) (shl .u16 1 (a : Int))) = tabF n (withP f a b) := by
  have e1 : Go.bits .or .u16 (rd (tabF n f) (a : Int)) (shl .u16 1 (b : Int)) = ((maskOf (withP f a b a) n : Nat) : Int) := by
    rw [tabF_get ha, shl16 (by omega), or16 (mask16 hn) (Nat.pow_lt_pow_right (by omega) (by omega)), mask_one hb, mask_or]
    congr 1
    apply maskOf_congr
    intro c _
    unfold withP
    simp [hab]
  have e2 : rd ((tabF n f).set a (Go.bits .or .u16 (rd (tabF n f) (a : Int)) (shl .u16 1 (b : Int)))) (b : Int) = ((maskOf (f b) n : Nat) : Int) := by
    rw [rd_at (by rw [List.length_set, tabF_length]; exact hb), List.getElem_set_ne hab]
    simp [tabF]
  have e3 : Go.bits .or .u16 ((maskOf (f b) n : Nat) : Int) (shl .u16 1 (a : Int)) = ((maskOf (withP f a b b) n : Nat) : Int) := by
    rw [shl16 (by omega), or16 (mask16 hn) (Nat.pow_lt_pow_right (by omega) (by omega)), mask_one ha, mask_or]
    congr 1
    apply maskOf_congr
    intro c _
    unfold withP
    simp [show ¬ (b = a) from fun q => hab q.symm]
  rw [e2, e3, e1]
  apply List.ext_getElem
  · simp [tabF_length]
  · intro i h1 h2
    rw [tabF_length] at h2
    rw [List.getElem_set, List.getElem_set]
    by_cases i1 : b = i
    · subst i1
      rw [if_pos rfl]
      simp [tabF]
    · rw [if_neg i1]
      by_cases i2 : a = i
      · subst i2
        rw [if_pos rfl]
        simp [tabF]
      · rw [if_neg i2]
        simp only [tabF, List.getElem_map, List.getElem_range]
        congr 1
        apply maskOf_congr
        intro c _
        unfold withP
        simp [show ¬ (i = a) from fun q => i2 q.symm, show ¬ (i = b) from fun q => i1 q.symm]

end Go.Proofs.Ytipblaifgpnebaa.Plain

/- The reference's table of a party: for each person, of each person, whether they are friends. No condition but lengths that fit. -/
namespace Go.Proofs.Ytipblaifgpnebaa.Plain
open Go.RowKit Go.Proofs.YtipblaifgpnebaaW.PrintWords Go.Proofs.YtipblaifgpnebaaW.PrintLast
set_option linter.unusedVariables false
open Q

theorem rdB_at {l : List (List Bool)} {i : Nat} (h : i < l.length) : rd_L5 l (i : Int) = l[i] := by
  simp [rd_L5, List.getD, h]
theorem rdOfB_at {l : List Bool} {i : Nat} (h : i < l.length) : rdOf false l (i : Int) = l[i] := by
  simp [rdOf, List.getD, h]

/-- The table of a relation of n people, as bools. -/
def rowB (n : Nat) (f : Nat → Bool) : List Bool := (List.range n).map f
def tabB (n : Nat) (f : Nat → Nat → Bool) : List (List Bool) := (List.range n).map fun a => rowB n (f a)
theorem rowB_length (n : Nat) (f : Nat → Bool) : (rowB n f).length = n := by simp [rowB]
theorem rowB_get {n : Nat} {f : Nat → Bool} {a : Nat} (h : a < (rowB n f).length) : (rowB n f)[a] = f a := by simp [rowB]
theorem tabB_length (n : Nat) (f : Nat → Nat → Bool) : (tabB n f).length = n := by simp [tabB]
theorem tabB_getElem {n : Nat} {f : Nat → Nat → Bool} {a : Nat} (h : a < (tabB n f).length) : (tabB n f)[a] = rowB n (f a) := by simp [tabB]
theorem tabB_get {n : Nat} {f : Nat → Nat → Bool} {a : Nat} (h : a < n) : rd_L5 (tabB n f) (a : Int) = rowB n (f a) := by
  rw [rdB_at (by rw [tabB_length]; exact h), tabB_getElem]
theorem rowB_congr {n : Nat} {f g : Nat → Bool} (h : ∀ b, b < n → f b = g b) : rowB n f = rowB n g := by
  unfold rowB
  apply List.map_congr_left
  intro b hb
  exact h b (by simpa using hb)
theorem tabB_congr {n : Nat} {f g : Nat → Nat → Bool} (h : ∀ a b, a < n → b < n → f a b = g a b) : tabB n f = tabB n g := by
  unfold tabB
  apply List.map_congr_left
  intro a ha
  exact rowB_congr (fun b hb => h a b (by simpa using ha) hb)
theorem rowB_set {n : Nat} {f : Nat → Bool} {b : Nat} (v : Bool) : (rowB n f).set b v = rowB n (fun c => if c = b then v else f c) := by
  apply List.ext_getElem
  · simp [rowB_length]
  · intro i h1 h2
    rw [List.getElem_set, rowB_get]
    by_cases e : b = i
    · subst e; rw [if_pos rfl, rowB_get, if_pos rfl]
    · rw [if_neg e, rowB_get, if_neg (fun q => e q.symm)]

/-- Two cells set, the one of both people's. -/
def setP (f : Nat → Nat → Bool) (a b : Nat) (v : Bool) : Nat → Nat → Bool := fun c d => if (c = a ∧ d = b) ∨ (c = b ∧ d = a) then v else f c d

theorem tabB_put {n : Nat} (f : Nat → Nat → Bool) {a b : Nat} (ha : a < n) (hb : b < n) (hab : a ≠ b) (v : Bool) :
    ((tabB n f).set a ((rd_L5 (tabB n f) (a : Int)).set b v)).set b ((rd_L5 ((tabB n f).set a ((rd_L5 (tabB n f) (a : Int)).set b v)) (b : Int)).set a v) = tabB n (setP f a b v) := by
  have e2 : rd_L5 ((tabB n f).set a ((rd_L5 (tabB n f) (a : Int)).set b v)) (b : Int) = rowB n (f b) := by
    rw [rdB_at (by rw [List.length_set, tabB_length]; exact hb), List.getElem_set_ne hab, tabB_getElem]
  rw [e2, tabB_get ha, rowB_set, rowB_set]
  apply List.ext_getElem
  · simp [tabB_length]
  · intro i h1 h2
    rw [tabB_length] at h2
    rw [List.getElem_set, List.getElem_set]
    by_cases i1 : b = i
    · subst i1
      rw [if_pos rfl, tabB_getElem]
      apply rowB_congr
      intro c _
      unfold setP
      simp [show ¬ (b = a) from fun q => hab q.symm]
    · rw [if_neg i1]
      by_cases i2 : a = i
      · subst i2
        rw [if_pos rfl, tabB_getElem]
        apply rowB_congr
        intro c _
        unfold setP
        simp [hab]
      · rw [if_neg i2, tabB_getElem, tabB_getElem]
        apply rowB_congr
        intro c _
        unfold setP
        simp [show ¬ (i = a) from fun q => i2 q.symm, show ¬ (i = b) from fun q => i1 q.symm]

theorem setP_true (f : Nat → Nat → Bool) (a b c d : Nat) : setP f a b true c d = withP f a b c d := by
  unfold setP withP
  by_cases h : (c = a ∧ d = b) ∨ (c = b ∧ d = a)
  · rw [if_pos h]
    rcases h with ⟨rfl, rfl⟩ | ⟨rfl, rfl⟩ <;> simp
  · rw [if_neg h]
    have : ((decide (c = a) && decide (d = b)) || (decide (c = b) && decide (d = a))) = false := by
      rw [Bool.eq_false_iff]
      intro q
      exact h (by simpa using q)
    rw [this, Bool.or_false]

theorem adj_next {n : Nat} {l : List Pr} (hr : Right n l) {i : Nat} (hi : i < l.length) (c d : Nat) : withP (adj (l.take i)) l[i].f0.toNat l[i].f1.toNat c d = adj (l.take (i + 1)) c d := by
  have r := hr _ (List.getElem_mem hi)
  rw [List.take_succ_eq_append_getElem hi, adj_snoc]
  unfold withP
  congr 1
  have k1 : decide (c = l[i].f0.toNat) = decide (l[i].f0 = (c : Int)) := by apply decide_eq_decide.mpr; omega
  have k2 : decide (d = l[i].f1.toNat) = decide (l[i].f1 = (d : Int)) := by apply decide_eq_decide.mpr; omega
  have k3 : decide (c = l[i].f1.toNat) = decide (l[i].f1 = (c : Int)) := by apply decide_eq_decide.mpr; omega
  have k4 : decide (d = l[i].f0.toNat) = decide (l[i].f0 = (d : Int)) := by apply decide_eq_decide.mpr; omega
  rw [k1, k2, k3, k4, Bool.and_comm (decide (l[i].f1 = (c : Int)))]

theorem paTable_ev {n : Nat} {l : List Pr} (hn : n ≤ 12) (hr : Right n l) (h : l.length ≤ 9223372036854775807) : Ev (fun k => spec_paTable.f k (n : Int) l) (tabB n (adj l)) := by
  have q1 := ev_up (n := l.length) (loop := fun k i => spec_paTable.l1 k (tabB n (adj (l.take i))) l (l.length : Int) (i : Int)) (r := fun _ => tabB n (adj l))
    (Ev.step (f := fun _ => some (tabB n (adj l))) (fun k => by simp [spec_paTable.l1]) (Ev.now _))
    (fun i hi ih => by
      have r := hr _ (List.getElem_mem hi)
      have ea : ((l[i].f0.toNat : Nat) : Int) = l[i].f0 := by omega
      have eb : ((l[i].f1.toNat : Nat) : Int) = l[i].f1 := by omega
      have hput := tabB_put (n := n) (adj (l.take i)) (a := l[i].f0.toNat) (b := l[i].f1.toNat) (by omega) (by omega) (by omega) true
      have hnext : tabB n (setP (adj (l.take i)) l[i].f0.toNat l[i].f1.toNat true) = tabB n (adj (l.take (i + 1))) :=
        tabB_congr (fun c d _ _ => by rw [setP_true, adj_next hr hi])
      rw [hnext] at hput
      have la : (rd_L5 (tabB n (adj (l.take i))) l[i].f0).length = n := by
        rw [← ea, tabB_get (by omega), rowB_length]
      have lb : (rd_L5 ((tabB n (adj (l.take i))).set l[i].f0.toNat ((rd_L5 (tabB n (adj (l.take i))) l[i].f0).set l[i].f1.toNat true)) l[i].f1).length = n := by
        rw [← eb, rdB_at (by rw [List.length_set, tabB_length]; omega), List.getElem_set_ne (by omega), tabB_getElem, rowB_length]
      rw [ea, eb] at hput
      refine Ev.step (f := fun k => spec_paTable.l1 k (tabB n (adj (l.take (i + 1)))) l (l.length : Int) ((i + 1 : Nat) : Int)) (fun k => ?_) ih
      simp only [spec_paTable.l1]
      rw [if_pos (by omega), if_pos (by omega), if_pos (by omega), rdP_at hi, if_pos (by omega), if_pos (by rw [tabB_length]; omega), if_pos (by omega), if_pos (by rw [la]; omega), Option.bind_some, if_pos (by rw [tabB_length]; omega), if_pos (by rw [lb]; omega), hput, succ_cast hi h]) 0 (Nat.zero_le _)
  have e0 : tabB n (adj (l.take 0)) = List.replicate n (List.replicate n false) := by
    unfold tabB
    rw [List.eq_replicate_iff]
    refine ⟨by simp, fun b hb => ?_⟩
    obtain ⟨a, _, rfl⟩ := List.mem_map.1 hb
    unfold rowB
    rw [List.eq_replicate_iff]
    refine ⟨by simp, fun c hc => ?_⟩
    obtain ⟨d, _, rfl⟩ := List.mem_map.1 hc
    rw [List.take_zero, adj_nil]
  rw [e0] at q1
  have q0 := ev_up (n := n) (loop := fun k i => spec_paTable.l0 k (List.replicate i (List.replicate n false)) (i : Int) (n : Int) l) (r := fun _ => tabB n (adj l))
    (Ev.step (f := fun k => spec_paTable.l1 k (List.replicate n (List.replicate n false)) l (l.length : Int) 0) (fun k => by
      simp only [spec_paTable.l0]
      rw [if_neg (by omega)]) q1)
    (fun i hi ih => by
      refine Ev.step (f := fun k => spec_paTable.l0 k (List.replicate (i + 1) (List.replicate n false)) ((i + 1 : Nat) : Int) (n : Int) l) (fun k => ?_) ih
      simp only [spec_paTable.l0]
      rw [if_pos (by omega), if_pos (by omega), if_pos (by omega), if_pos (by simp; omega), Int.toNat_natCast, succ_cast hi (by omega), ← List.replicate_succ']) 0 (Nat.zero_le _)
  exact q0
end Go.Proofs.Ytipblaifgpnebaa.Plain

/- The party of a table, on both sides. No condition but that there are at most twelve people. -/
namespace Go.Proofs.Ytipblaifgpnebaa.Plain
open Go.RowKit Go.Proofs.YtipblaifgpnebaaW.PrintWords Go.Proofs.YtipblaifgpnebaaW.PrintLast
set_option linter.unusedVariables false
open Q

theorem has_eq {n : Nat} (hn : n ≤ 12) (f : Nat → Nat → Bool) {a b : Nat} (ha : a < n) (hb : b < n) : impl_table_has.f (tabF n f) (a : Int) (b : Int) = some (f a b) := by
  unfold impl_table_has.f
  rw [if_pos (by omega), if_pos (by rw [tabF_length]; omega), if_pos (by omega), tabF_get ha]
  have hm := mask16 (f := f a) (n := n) (by omega)
  have e1 : shr .u16 ((maskOf (f a) n : Nat) : Int) (b : Int) = ((maskOf (f a) n / 2 ^ b : Nat) : Int) := by
    unfold shr
    have h1 : min ((b : Int)).toNat IntKind.u16.bits = b := by
      rw [Int.toNat_natCast]
      exact Nat.min_eq_left (by show b ≤ 16; omega)
    rw [h1]
    simp
  have hlt : maskOf (f a) n / 2 ^ b < 2 ^ 16 := Nat.lt_of_le_of_lt (Nat.div_le_self _ _) hm
  have e2 : Go.bits .and .u16 ((maskOf (f a) n / 2 ^ b : Nat) : Int) 1 = (((maskOf (f a) n / 2 ^ b) % 2 : Nat) : Int) := by
    rw [show (1 : Int) = ((1 : Nat) : Int) by rfl, and16 hlt (by omega), Nat.and_one_is_mod]
  rw [e1, e2]
  have hb2 := maskOf_bit (f a) n b
  rw [Nat.testBit_eq_decide_div_mod_eq, decide_eq_true hb, Bool.true_and] at hb2
  congr 1
  rw [← hb2, Bool.eq_iff_iff, beq_iff_eq, decide_eq_true_eq]
  omega

/-- A person's pairs with people from b on. -/
def rowFrom (n : Nat) (f : Nat → Bool) (a b : Nat) : List Pr := ((List.range n).drop b).filterMap fun c => if f c = true then some ⟨(a : Int), (c : Int)⟩ else none
/-- The pairs of people from a on. -/
def restFrom (n : Nat) (f : Nat → Nat → Bool) (a : Nat) : List Pr := ((List.range n).drop a).flatMap fun a => rowFrom n (f a) a (a + 1)
/-- The pairs of a relation, in order. -/
def pairsF (n : Nat) (f : Nat → Nat → Bool) : List Pr := restFrom n f 0

theorem rowFrom_end (n : Nat) (f : Nat → Bool) (a b : Nat) (h : n ≤ b) : rowFrom n f a b = [] := by
  unfold rowFrom
  rw [List.drop_of_length_le (by simpa using h)]; rfl
theorem rowFrom_step {n : Nat} {f : Nat → Bool} {a b : Nat} (h : b < n) : rowFrom n f a b = (if f b = true then [⟨(a : Int), (b : Int)⟩] else []) ++ rowFrom n f a (b + 1) := by
  unfold rowFrom
  rw [List.drop_eq_getElem_cons (by simpa using h), List.filterMap_cons, List.getElem_range]
  by_cases c : f b = true
  · rw [if_pos c, if_pos c]; rfl
  · rw [if_neg c, if_neg c]; rfl
theorem restFrom_end (n : Nat) (f : Nat → Nat → Bool) : restFrom n f n = [] := by
  unfold restFrom
  rw [List.drop_of_length_le (by simp)]; rfl
theorem restFrom_step {n : Nat} {f : Nat → Nat → Bool} {a : Nat} (h : a < n) : restFrom n f a = rowFrom n (f a) a (a + 1) ++ restFrom n f (a + 1) := by
  unfold restFrom
  rw [List.drop_eq_getElem_cons (by simpa using h), List.flatMap_cons, List.getElem_range]

theorem paOf_ev {n : Nat} (hn : n ≤ 12) (f : Nat → Nat → Bool) : Ev (fun k => spec_paOf.f k (tabB n f)) ((n : Int), pairsF n f) := by
  have outer : ∀ d a acc, a ≤ n → n - a = d → List.length acc ≤ 12 * a → Ev (fun k => spec_paOf.l0 k (tabB n f) (n : Int) (a : Int) (n : Int) acc) ((n : Int), acc ++ restFrom n f a) := by
    intro d
    induction d with
    | zero =>
      intro a acc ha hd _
      have e : a = n := by omega
      subst e
      rw [restFrom_end, List.append_nil]
      refine Ev.step (f := fun _ => some ((a : Int), acc)) (fun k => ?_) (Ev.now _)
      simp only [spec_paOf.l0]
      rw [if_neg (by omega)]
    | succ d ihd =>
      intro a acc ha hd hacc
      have han : a < n := by omega
      have inner : ∀ e b acc, a < b → b ≤ n → n - b = e → List.length acc ≤ 12 * a + b - 1 → Ev (fun k => spec_paOf.l1 k (tabB n f) (a : Int) (b : Int) (n : Int) (a : Int) (n : Int) acc) ((n : Int), acc ++ (rowFrom n (f a) a b ++ restFrom n f (a + 1))) := by
        intro e
        induction e with
        | zero =>
          intro b acc hab hb he hacc
          have e : b = n := by omega
          subst e
          rw [rowFrom_end _ _ _ _ (Nat.le_refl _), List.nil_append]
          refine Ev.step (f := fun k => spec_paOf.l0 k (tabB b f) (b : Int) ((a + 1 : Nat) : Int) (b : Int) acc) (fun k => ?_) (ihd (a + 1) acc (by omega) (by omega) (by omega))
          simp only [spec_paOf.l1]
          rw [if_neg (by rw [tabB_length]; omega), succ_cast han (by omega)]
        | succ e ihe =>
          intro b acc hab hb he hacc
          have hbn : b < n := by omega
          have hg : (rowB n (f a)).length = n := rowB_length _ _
          have hv : rdOf false (rowB n (f a)) (b : Int) = f a b := by rw [rdOfB_at (by rw [hg]; exact hbn), rowB_get]
          rw [rowFrom_step hbn]
          by_cases c : f a b = true
          · refine Ev.step (f := fun k => spec_paOf.l1 k (tabB n f) (a : Int) ((b + 1 : Nat) : Int) (n : Int) (a : Int) (n : Int) (acc ++ [⟨(a : Int), (b : Int)⟩])) (fun k => ?_) (by
              have := ihe (b + 1) (acc ++ [⟨(a : Int), (b : Int)⟩]) (by omega) (by omega) (by omega) (by simp; omega)
              rw [if_pos c]
              rw [List.append_assoc] at this ⊢
              exact this)
            simp only [spec_paOf.l1]
            rw [if_pos (by rw [tabB_length]; omega), if_pos (by omega), if_pos (by rw [tabB_length]; omega), if_pos (by omega), tabB_get han, if_pos (by rw [hg]; omega), hv, if_pos c, if_pos (by omega), succ_cast hbn (by omega)]
          · refine Ev.step (f := fun k => spec_paOf.l1 k (tabB n f) (a : Int) ((b + 1 : Nat) : Int) (n : Int) (a : Int) (n : Int) acc) (fun k => ?_) (by
              have := ihe (b + 1) acc (by omega) (by omega) (by omega) (by omega)
              rw [if_neg c, List.nil_append]
              exact this)
            simp only [spec_paOf.l1]
            rw [if_pos (by rw [tabB_length]; omega), if_pos (by omega), if_pos (by rw [tabB_length]; omega), if_pos (by omega), tabB_get han, if_pos (by rw [hg]; omega), hv, if_neg c, succ_cast hbn (by omega)]
      rw [restFrom_step han]
      refine Ev.step (f := fun k => spec_paOf.l1 k (tabB n f) (a : Int) ((a + 1 : Nat) : Int) (n : Int) (a : Int) (n : Int) acc) (fun k => ?_) (inner (n - (a + 1)) (a + 1) acc (by omega) (by omega) rfl (by omega))
      simp only [spec_paOf.l0]
      rw [if_pos (by omega), succ_cast han (by omega)]
  refine Ev.congr (f := fun k => spec_paOf.l0 k (tabB n f) (n : Int) 0 (n : Int) []) (fun k => ?_) (outer n 0 [] (Nat.zero_le _) rfl (by simp))
  unfold spec_paOf.f
  rw [tabB_length]

theorem party_ev {n : Nat} (hn : n ≤ 12) (f : Nat → Nat → Bool) : Ev (fun k => impl_table_party.f k (tabF n f)) ((n : Int), pairsF n f) := by
  have outer : ∀ d a acc, a ≤ n → n - a = d → List.length acc ≤ 12 * a → Ev (fun k => impl_table_party.l0 k (tabF n f) (n : Int) (a : Int) (n : Int) acc) ((n : Int), acc ++ restFrom n f a) := by
    intro d
    induction d with
    | zero =>
      intro a acc ha hd _
      have e : a = n := by omega
      subst e
      rw [restFrom_end, List.append_nil]
      refine Ev.step (f := fun _ => some ((a : Int), acc)) (fun k => ?_) (Ev.now _)
      simp only [impl_table_party.l0]
      rw [if_neg (by omega)]
    | succ d ihd =>
      intro a acc ha hd hacc
      have han : a < n := by omega
      have inner : ∀ e b acc, a < b → b ≤ n → n - b = e → List.length acc ≤ 12 * a + b - 1 → Ev (fun k => impl_table_party.l1 k (tabF n f) (a : Int) (b : Int) (n : Int) (a : Int) (n : Int) acc) ((n : Int), acc ++ (rowFrom n (f a) a b ++ restFrom n f (a + 1))) := by
        intro e
        induction e with
        | zero =>
          intro b acc hab hb he hacc
          have e : b = n := by omega
          subst e
          rw [rowFrom_end _ _ _ _ (Nat.le_refl _), List.nil_append]
          refine Ev.step (f := fun k => impl_table_party.l0 k (tabF b f) (b : Int) ((a + 1 : Nat) : Int) (b : Int) acc) (fun k => ?_) (ihd (a + 1) acc (by omega) (by omega) (by omega))
          simp only [impl_table_party.l1]
          rw [if_neg (by rw [tabF_length]; omega), succ_cast han (by omega)]
        | succ e ihe =>
          intro b acc hab hb he hacc
          have hbn : b < n := by omega
          rw [rowFrom_step hbn]
          by_cases c : f a b = true
          · refine Ev.step (f := fun k => impl_table_party.l1 k (tabF n f) (a : Int) ((b + 1 : Nat) : Int) (n : Int) (a : Int) (n : Int) (acc ++ [⟨(a : Int), (b : Int)⟩])) (fun k => ?_) (by
              have := ihe (b + 1) (acc ++ [⟨(a : Int), (b : Int)⟩]) (by omega) (by omega) (by omega) (by simp; omega)
              rw [if_pos c]
              rw [List.append_assoc] at this ⊢
              exact this)
            simp only [impl_table_party.l1]
            rw [if_pos (by rw [tabF_length]; omega), has_eq hn f han hbn, Option.bind_some, if_pos c, if_pos (by omega), succ_cast hbn (by omega)]
          · refine Ev.step (f := fun k => impl_table_party.l1 k (tabF n f) (a : Int) ((b + 1 : Nat) : Int) (n : Int) (a : Int) (n : Int) acc) (fun k => ?_) (by
              have := ihe (b + 1) acc (by omega) (by omega) (by omega) (by omega)
              rw [if_neg c, List.nil_append]
              exact this)
            simp only [impl_table_party.l1]
            rw [if_pos (by rw [tabF_length]; omega), has_eq hn f han hbn, Option.bind_some, if_neg c, succ_cast hbn (by omega)]
      rw [restFrom_step han]
      refine Ev.step (f := fun k => impl_table_party.l1 k (tabF n f) (a : Int) ((a + 1 : Nat) : Int) (n : Int) (a : Int) (n : Int) acc) (fun k => ?_) (inner (n - (a + 1)) (a + 1) acc (by omega) (by omega) rfl (by omega))
      simp only [impl_table_party.l0]
      rw [if_pos (by omega), succ_cast han (by omega)]
  refine Ev.congr (f := fun k => impl_table_party.l0 k (tabF n f) (n : Int) 0 (n : Int) []) (fun k => ?_) (outer n 0 [] (Nat.zero_le _) rfl (by simp))
  unfold impl_table_party.f
  rw [tabF_length]
end Go.Proofs.Ytipblaifgpnebaa.Plain

/- The reference's other party: friends are who were none. No condition but that there are at most twelve people. -/
namespace Go.Proofs.Ytipblaifgpnebaa.Plain
open Go.RowKit Go.Proofs.YtipblaifgpnebaaW.PrintWords Go.Proofs.YtipblaifgpnebaaW.PrintLast
set_option linter.unusedVariables false
open Q

theorem tabB_set {n : Nat} (g : Nat → Nat → Bool) {a b : Nat} (ha : a < n) (hb : b < n) (v : Bool) :
    (tabB n g).set a ((rd_L5 (tabB n g) (a : Int)).set b v) = tabB n (fun c d => if c = a ∧ d = b then v else g c d) := by
  rw [tabB_get ha, rowB_set]
  apply List.ext_getElem
  · simp [tabB_length]
  · intro i h1 h2
    rw [tabB_length] at h2
    rw [List.getElem_set]
    by_cases e : a = i
    · subst e
      rw [if_pos rfl, tabB_getElem]
      apply rowB_congr
      intro c _
      simp
    · rw [if_neg e, tabB_getElem, tabB_getElem]
      apply rowB_congr
      intro c _
      rw [if_neg (fun q => e q.1.symm)]

theorem rowFrom_length (n : Nat) (f : Nat → Bool) (a b : Nat) : (rowFrom n f a b).length ≤ n := by
  unfold rowFrom
  refine Nat.le_trans (List.length_filterMap_le _ _) ?_
  rw [List.length_drop, List.length_range]; omega
theorem pairsF_length {n : Nat} (hn : n ≤ 12) (f : Nat → Nat → Bool) : (pairsF n f).length ≤ 1000 := by
  have q : ∀ d a, n - a = d → a ≤ n → (restFrom n f a).length ≤ 12 * d := by
    intro d
    induction d with
    | zero =>
      intro a h1 h2
      have e : a = n := by omega
      subst e
      rw [restFrom_end]; simp
    | succ d ih =>
      intro a h1 h2
      rw [restFrom_step (by omega), List.length_append]
      have h3 := ih (a + 1) (by omega) (by omega)
      have h4 := rowFrom_length n (f a) a (a + 1)
      omega
  have := q n 0 rfl (Nat.zero_le _)
  unfold pairsF
  omega

end Go.Proofs.Ytipblaifgpnebaa.Plain

/- One pair put into a table, on both sides; the empty tables. No condition but that there are at most twelve people. -/
namespace Go.Proofs.Ytipblaifgpnebaa.Plain
open Go.RowKit Go.Proofs.YtipblaifgpnebaaW.PrintWords Go.Proofs.YtipblaifgpnebaaW.PrintLast
set_option linter.unusedVariables false
open Q

theorem put_eq {n : Nat} (hn : n ≤ 12) (f : Nat → Nat → Bool) {a b : Nat} (ha : a < n) (hb : b < n) (hab : a ≠ b) : impl_table_put.f (tabF n f) (a : Int) (b : Int) = some (tabF n (withP f a b)) := by
  have h := tab_put (n := n) (by omega) f ha hb hab
  unfold impl_table_put.f
  rw [if_pos (by omega), if_pos (by rw [tabF_length]; omega), if_pos (by omega), Option.bind_some, if_pos (by rw [tabF_length]; omega), Int.toNat_natCast, Int.toNat_natCast, h]

theorem tabF_zero (n : Nat) : List.replicate n 0 = tabF n (fun _ _ => false) := by
  have hz : ∀ m, maskOf (fun _ => false) m = 0 := by
    intro m
    induction m with
    | zero => rfl
    | succ m ih => unfold maskOf; rw [ih]; simp
  symm
  unfold tabF
  rw [List.eq_replicate_iff]
  refine ⟨by simp, fun b hb => ?_⟩
  obtain ⟨a, _, rfl⟩ := List.mem_map.1 hb
  rw [hz]; rfl

theorem paTable0_ev {n : Nat} (hn : n ≤ 12) : Ev (fun k => spec_paTable.f k (n : Int) []) (tabB n (fun _ _ => false)) := by
  have := paTable_ev (n := n) (l := []) hn (fun x hx => absurd hx (by simp)) (by simp)
  have e : adj [] = fun _ _ => false := by funext a b; rfl
  rw [e] at this
  exact this
end Go.Proofs.Ytipblaifgpnebaa.Plain

/- A symmetric relation put into a table row by row, each pair once; the pairs of a relation. No condition. -/
namespace Go.Proofs.Ytipblaifgpnebaa.Plain
open Go.RowKit Go.Proofs.YtipblaifgpnebaaW.PrintWords Go.Proofs.YtipblaifgpnebaaW.PrintLast
set_option linter.unusedVariables false
open Q

theorem pairsF_congr {n : Nat} {f g : Nat → Nat → Bool} (h : ∀ a b, a < b → b < n → f a b = g a b) : pairsF n f = pairsF n g := by
  unfold pairsF restFrom
  rw [List.drop_zero, List.flatMap_def, List.flatMap_def]
  congr 1
  apply List.map_congr_left
  intro a _
  unfold rowFrom
  have cong : ∀ (z : List Nat) (p q : Nat → Option Pr), (∀ b ∈ z, p b = q b) → z.filterMap p = z.filterMap q := by
    intro z p q
    induction z with
    | nil => intro _; rfl
    | cons x t ih =>
      intro hpq
      rw [List.filterMap_cons, List.filterMap_cons, hpq x (List.mem_cons_self ..), ih (fun b hb => hpq b (List.mem_cons_of_mem _ hb))]
  have : ∀ b ∈ (List.range n).drop (a + 1), (if f a b = true then some (⟨(a : Int), (b : Int)⟩ : Pr) else none) = (if g a b = true then some ⟨(a : Int), (b : Int)⟩ else none) := by
    intro b hb
    obtain ⟨i, hi, rfl⟩ := List.mem_iff_getElem.1 hb
    rw [List.length_drop, List.length_range] at hi
    rw [List.getElem_drop, List.getElem_range] at *
    rw [h a (a + 1 + i) (by omega) (by omega)]
  exact cong _ _ _ this

end Go.Proofs.Ytipblaifgpnebaa.Plain

/- The parties of pairs that share somebody, on both sides. No condition but that there are at most twelve pairs. -/
namespace Go.Proofs.Ytipblaifgpnebaa.Plain
open Go.RowKit Go.Proofs.YtipblaifgpnebaaW.PrintWords Go.Proofs.YtipblaifgpnebaaW.PrintLast
set_option linter.unusedVariables false
open Q

/-- Do two pairs share somebody. -/
def meets (x y : Pr) : Bool := decide (x.f0 = y.f0) || decide (x.f0 = y.f1) || decide (x.f1 = y.f0) || decide (x.f1 = y.f1)
def meetAt (l : List Pr) (a b : Nat) : Bool := meets (l.getD a ⟨0, 0⟩) (l.getD b ⟨0, 0⟩)
theorem meets_comm (x y : Pr) : meets x y = meets y x := by
  rw [Bool.eq_iff_iff]
  unfold meets
  simp only [Bool.or_eq_true, decide_eq_true_eq]
  omega
theorem meetAt_get {l : List Pr} {a b : Nat} (ha : a < l.length) (hb : b < l.length) : meetAt l a b = meets l[a] l[b] := by
  unfold meetAt
  rw [List.getD_eq_getElem?_getD, List.getD_eq_getElem?_getD, List.getElem?_eq_getElem ha, List.getElem?_eq_getElem hb]; rfl

/-- The reference's cell. -/
def cellB (l : List Pr) (want : Bool) (a b : Nat) : Bool := decide (a ≠ b) && (meetAt l a b == want)
/-- The cells before a place are filled. -/
def fillB (g : Nat → Nat → Bool) (i j : Nat) : Nat → Nat → Bool := fun a b => if a < i ∨ (a = i ∧ b < j) then g a b else false

theorem cfPairs_ev (l : List Pr) (want : Bool) (h : l.length ≤ 12) : Ev (fun k => spec_cfPairs.f k l want) ((l.length : Int), pairsF l.length (cellB l want)) := by
  unfold spec_cfPairs.f
  refine Ev.bind (paTable0_ev h) ?_
  have q := ev_up (n := l.length) (loop := fun k i => spec_cfPairs.l0 k l want (tabB l.length (fillB (cellB l want) i 0)) l (l.length : Int) (i : Int)) (r := fun _ => ((l.length : Int), pairsF l.length (cellB l want)))
    (by
      refine Ev.step (f := fun k => (spec_paOf.f k (tabB l.length (fillB (cellB l want) l.length 0))).bind fun bt => some (bt.1, bt.2)) (fun k => ?_) ?_
      · simp only [spec_cfPairs.l0]
        rw [if_neg (by omega)]
      · refine Ev.bind (paOf_ev h _) ?_
        have e2 : pairsF l.length (fillB (cellB l want) l.length 0) = pairsF l.length (cellB l want) := pairsF_congr (fun a b h1 h2 => by unfold fillB; rw [if_pos (by omega)])
        show Ev (fun _ => some ((l.length : Int), pairsF l.length (fillB (cellB l want) l.length 0))) _
        rw [e2]
        exact Ev.now _)
    (fun i hi ih => by
      have q2 := ev_up (n := l.length) (loop := fun k j => spec_cfPairs.l1 k l want (tabB l.length (fillB (cellB l want) i j)) (i : Int) l (l.length : Int) (i : Int) l (l.length : Int) (j : Int) l[i].f0 l[i].f1) (r := fun _ => ((l.length : Int), pairsF l.length (cellB l want)))
        (by
          have e : tabB l.length (fillB (cellB l want) i l.length) = tabB l.length (fillB (cellB l want) (i + 1) 0) := tabB_congr (fun a b ha hb => by
            unfold fillB
            have : (a < i ∨ a = i ∧ b < l.length) ↔ (a < i + 1 ∨ a = i + 1 ∧ b < 0) := by omega
            simp only [this])
          refine Ev.step (f := fun k => spec_cfPairs.l0 k l want (tabB l.length (fillB (cellB l want) (i + 1) 0)) l (l.length : Int) ((i + 1 : Nat) : Int)) (fun k => ?_) ih
          simp only [spec_cfPairs.l1]
          rw [if_neg (by omega), e, succ_cast hi (by omega)])
        (fun j hj ih2 => by
          have lr : (rd_L5 (tabB l.length (fillB (cellB l want) i j)) (i : Int)).length = l.length := by rw [tabB_get hi, rowB_length]
          have e : ∀ v, v = cellB l want i j → (tabB l.length (fillB (cellB l want) i j)).set i ((rd_L5 (tabB l.length (fillB (cellB l want) i j)) (i : Int)).set j v) = tabB l.length (fillB (cellB l want) i (j + 1)) := by
            intro v hv
            rw [tabB_set _ hi hj]
            apply tabB_congr
            intro c d _ _
            unfold fillB
            by_cases p : c = i ∧ d = j
            · obtain ⟨rfl, rfl⟩ := p
              rw [if_pos ⟨rfl, rfl⟩, if_pos (by omega), hv]
            · rw [if_neg p]
              have : (c < i ∨ c = i ∧ d < j) ↔ (c < i ∨ c = i ∧ d < j + 1) := by omega
              simp only [this]
          have hm := meetAt_get hi hj
          refine Ev.step (f := fun k => spec_cfPairs.l1 k l want (tabB l.length (fillB (cellB l want) i (j + 1))) (i : Int) l (l.length : Int) (i : Int) l (l.length : Int) ((j + 1 : Nat) : Int) l[i].f0 l[i].f1) (fun k => ?_) ih2
          simp only [spec_cfPairs.l1]
          rw [if_pos (by omega), if_pos (by omega), if_pos (by omega), rdP_at hj]
          have b1 : (0 : Int) ≤ (i : Int) := by omega
          have b2 : (i : Int) < ((tabB l.length (fillB (cellB l want) i j)).length : Int) := by rw [tabB_length]; omega
          have b3 : (j : Int) < ((rd_L5 (tabB l.length (fillB (cellB l want) i j)) (i : Int)).length : Int) := by rw [lr]; omega
          simp only [if_pos b1, if_pos b2, if_pos b3, Int.toNat_natCast, succ_cast hj (show l.length ≤ 9223372036854775807 by omega)]
          by_cases hij : i = j
          · have c0 : false = cellB l want i j := by unfold cellB; simp [hij]
            rw [e false c0]
            simp only [show ((i : Int) = (j : Int)) from by omega, if_true]
            repeat' split
            all_goals rfl
          · have hij' : ¬ ((i : Int) = (j : Int)) := by omega
            have cell : ∀ b, meets l[i] l[j] = b → cellB l want i j = (b == want) := by
              intro b hb
              unfold cellB
              rw [hm, hb]
              simp [hij]
            simp only [if_neg hij']
            by_cases c1 : l[i].f0 = l[j].f0
            · rw [if_pos c1, e _ (cell true (by unfold meets; simp [c1])).symm]
            · rw [if_neg c1]
              by_cases c2 : l[i].f0 = l[j].f1
              · rw [if_pos c2, e _ (cell true (by unfold meets; simp [c2])).symm]
              · rw [if_neg c2]
                by_cases c3 : l[i].f1 = l[j].f0
                · rw [if_pos c3, e _ (cell true (by unfold meets; simp [c3])).symm]
                · rw [if_neg c3, e _ (cell (l[i].f1 == l[j].f1) (by unfold meets; simp only [decide_eq_false c1, decide_eq_false c2, decide_eq_false c3, Bool.false_or]; exact (Bool.beq_eq_decide_eq _ _).symm)).symm]) 0 (Nat.zero_le _)
      refine Ev.step (f := fun k => spec_cfPairs.l1 k l want (tabB l.length (fillB (cellB l want) i 0)) (i : Int) l (l.length : Int) (i : Int) l (l.length : Int) 0 l[i].f0 l[i].f1) (fun k => ?_) (by simpa using q2)
      simp only [spec_cfPairs.l0]
      rw [if_pos (by omega), if_pos (by omega), if_pos (by omega), rdP_at hi]) 0 (Nat.zero_le _)
  have e0 : tabB l.length (fillB (cellB l want) 0 0) = tabB l.length (fun _ _ => false) := tabB_congr (fun a b _ _ => by unfold fillB; rw [if_neg (by omega)])
  rw [e0] at q
  exact q

/-- The program's relation, when the rows before i and j cells of row i are seen. -/
def seenF (l : List Pr) (i j : Nat) : Nat → Nat → Bool := fun a b => meetAt l a b && decide ((b < a ∧ (a < i ∨ (a = i ∧ b < j))) ∨ (a < b ∧ (b < i ∨ (b = i ∧ a < j))))
theorem seenF_yes {l : List Pr} {i j : Nat} (hj : j < i) (h : meetAt l i j = true) : withP (seenF l i j) i j = seenF l i (j + 1) := by
  funext c d
  unfold withP seenF
  by_cases h1 : c = i ∧ d = j
  · obtain ⟨rfl, rfl⟩ := h1
    rw [h]
    simp [hj]
  · by_cases h2 : c = j ∧ d = i
    · obtain ⟨rfl, rfl⟩ := h2
      have h' : meetAt l c d = true := by unfold meetAt at h ⊢; rw [meets_comm]; exact h
      rw [h']
      simp [hj]
    · have e1 : (decide (c = i) && decide (d = j)) = false := by rw [Bool.eq_false_iff]; intro q; exact h1 (by simpa using q)
      have e2 : (decide (c = j) && decide (d = i)) = false := by rw [Bool.eq_false_iff]; intro q; exact h2 (by simpa using q)
      rw [e1, e2, Bool.or_false, Bool.or_false]
      congr 1
      apply decide_eq_decide.mpr
      omega
theorem seenF_no {l : List Pr} {i j : Nat} (hj : j < i) (h : meetAt l i j = false) : seenF l i j = seenF l i (j + 1) := by
  funext c d
  unfold seenF
  by_cases h1 : c = i ∧ d = j
  · obtain ⟨rfl, rfl⟩ := h1
    rw [h]; rfl
  · by_cases h2 : c = j ∧ d = i
    · obtain ⟨rfl, rfl⟩ := h2
      have h' : meetAt l c d = false := by unfold meetAt at h ⊢; rw [meets_comm]; exact h
      rw [h']; rfl
    · congr 1
      apply decide_eq_decide.mpr
      omega
theorem seenF_row (l : List Pr) (i : Nat) : seenF l i i = seenF l (i + 1) 0 := by
  funext c d
  unfold seenF
  congr 1
  apply decide_eq_decide.mpr
  omega
theorem seenF_zero (l : List Pr) : seenF l 0 0 = fun _ _ => false := by
  funext c d
  unfold seenF
  rw [decide_eq_false (by omega), Bool.and_false]

theorem linesL_ev (n : Int) (l : List Pr) (h : l.length ≤ 12) : Ev (fun k => impl_LinesOf.l0 k (List.replicate l.length 0) l (l.length : Int) 0 n l) ((l.length : Int), pairsF l.length (cellB l true), true) := by
  have q := ev_up (n := l.length) (loop := fun k i => impl_LinesOf.l0 k (tabF l.length (seenF l i 0)) l (l.length : Int) (i : Int) n l) (r := fun _ => ((l.length : Int), pairsF l.length (cellB l true), true))
    (by
      refine Ev.step (f := fun k => (impl_table_party.f k (tabF l.length (seenF l l.length 0))).bind fun bt => some (bt.1, bt.2, true)) (fun k => ?_) ?_
      · simp only [impl_LinesOf.l0]
        rw [if_neg (by omega)]
      · refine Ev.bind (party_ev h _) ?_
        have e2 : pairsF l.length (seenF l l.length 0) = pairsF l.length (cellB l true) := pairsF_congr (fun a b h1 h2 => by
          unfold seenF cellB
          rw [decide_eq_true (by omega), decide_eq_true (by omega)]
          simp)
        show Ev (fun _ => some ((l.length : Int), pairsF l.length (seenF l l.length 0), true)) _
        rw [e2]
        exact Ev.now _)
    (fun i hi ih => by
      have ht : (l.take i).length = i := by rw [List.length_take]; omega
      have q2 := ev_up (n := i) (loop := fun k j => impl_LinesOf.l1 k (tabF l.length (seenF l i j)) (i : Int) l (l.length : Int) (i : Int) (l.take i) (i : Int) (j : Int) n l l[i].f0 l[i].f1) (r := fun _ => ((l.length : Int), pairsF l.length (cellB l true), true))
        (by
          refine Ev.step (f := fun k => impl_LinesOf.l0 k (tabF l.length (seenF l (i + 1) 0)) l (l.length : Int) ((i + 1 : Nat) : Int) n l) (fun k => ?_) ih
          simp only [impl_LinesOf.l1]
          rw [if_neg (by omega), seenF_row, succ_cast hi (by omega)])
        (fun j hj ih2 => by
          have hjl : j < l.length := by omega
          have hm := meetAt_get hi hjl
          have put := put_eq h (seenF l i j) hi hjl (by omega)
          refine Ev.step (f := fun k => impl_LinesOf.l1 k (tabF l.length (seenF l i (j + 1))) (i : Int) l (l.length : Int) (i : Int) (l.take i) (i : Int) ((j + 1 : Nat) : Int) n l l[i].f0 l[i].f1) (fun k => ?_) ih2
          simp only [impl_LinesOf.l1]
          rw [if_pos (by omega), if_pos (by omega), if_pos (by rw [ht]; omega), rdP_at (by rw [ht]; exact hj), List.getElem_take]
          rw [put, Option.bind_some, succ_cast hj (by omega)]
          by_cases c1 : l[i].f0 = l[j].f0
          · rw [if_pos c1, seenF_yes hj (by rw [hm]; unfold meets; simp [c1])]
          · rw [if_neg c1]
            by_cases c2 : l[i].f0 = l[j].f1
            · rw [if_pos c2, seenF_yes hj (by rw [hm]; unfold meets; simp [c2])]
            · rw [if_neg c2]
              by_cases c3 : l[i].f1 = l[j].f0
              · rw [if_pos c3, seenF_yes hj (by rw [hm]; unfold meets; simp [c3])]
              · rw [if_neg c3]
                by_cases c4 : l[i].f1 = l[j].f1
                · rw [if_pos c4, seenF_yes hj (by rw [hm]; unfold meets; simp [c4])]
                · rw [if_neg c4, seenF_no hj (by rw [hm]; unfold meets; simp [c1, c2, c3, c4])]) 0 (Nat.zero_le _)
      refine Ev.step (f := fun k => impl_LinesOf.l1 k (tabF l.length (seenF l i 0)) (i : Int) l (l.length : Int) (i : Int) (l.take i) (i : Int) 0 n l l[i].f0 l[i].f1) (fun k => ?_) (by simpa using q2)
      simp only [impl_LinesOf.l0]
      rw [if_pos (by omega), if_pos (by omega), if_pos (by omega), if_pos (by omega), Option.bind_some, Int.toNat_natCast, ht, rdP_at hi]) 0 (Nat.zero_le _)
  rw [seenF_zero, ← tabF_zero] at q
  exact q
end Go.Proofs.Ytipblaifgpnebaa.Plain

/- The law's own functions over parties, and the reference's test. No condition but lengths that fit. -/
namespace Go.Proofs.Ytipblaifgpnebaa.Plain
open Go.RowKit Go.Proofs.YtipblaifgpnebaaW.PrintWords Go.Proofs.YtipblaifgpnebaaW.PrintLast
set_option linter.unusedVariables false
open Q

abbrev Lp := S67
/-- A pair of the law's as a pair of the program's. -/
def toP (x : Lp) : Pr := ⟨x.f0, x.f1⟩

theorem szParty_eq (n : Int) (l : List Lp) (a : Int) (h0 : 0 ≤ a) (h1 : a ≤ 1048576) (h : l.length ≤ 9223372036854775807) : laws_szParty.f n l a = some (if a < (l.length : Int) then -1 else a - l.length) := by
  unfold laws_szParty.f laws_szPairS.f
  rw [wrap_id (by omega) (by omega)]
  by_cases hl : a < (l.length : Int)
  · rw [if_pos (by omega), Option.bind_some, if_pos (by omega), if_pos hl]
  · rw [if_neg (by omega), Option.bind_some, if_neg (by omega), if_neg hl]

theorem rdLp_at {l : List Lp} {i : Nat} (h : i < l.length) : rd_T67 l (i : Int) = l[i] := by
  simp [rd_T67, List.getD, h]

theorem copy_map {α β : Type} (z : β) (g : α → β) (l : List α) (i : Nat) (h : i < l.length) :
    ((l.map g).take i ++ List.replicate (l.length - i) z).set ((i : Int)).toNat (g l[i]) = (l.map g).take (i + 1) ++ List.replicate (l.length - (i + 1)) z := by
  have e : l.length - i = (l.length - (i + 1)) + 1 := by omega
  have hl : ((l.map g).take i).length = i := by simp; omega
  have hm : i < (l.map g).length := by simpa using h
  rw [Int.toNat_natCast, e, List.replicate_succ, List.set_append_right _ _ (by omega), hl, Nat.sub_self, List.set_cons_zero, List.take_succ_eq_append_getElem hm, List.append_assoc, List.getElem_map]
  rfl

theorem toPairS_ev (l : List Lp) (h : l.length ≤ 17592186044416) : Ev (fun k => laws_toPairS.f k l) (l.map toP) := by
  refine Ev.congr (f := fun k => laws_toPairS.l0 k l (List.replicate l.length z63) 0) (fun k => ?_) ?_
  · unfold laws_toPairS.f
    rw [if_pos (by omega), if_pos (by omega), Int.toNat_natCast]
  · have q := ev_up (n := l.length) (loop := fun k i => laws_toPairS.l0 k l ((l.map toP).take i ++ List.replicate (l.length - i) z63) (i : Int)) (r := fun _ => l.map toP)
      (Ev.step (f := fun _ => some (l.map toP)) (fun k => by
        simp only [laws_toPairS.l0]
        rw [if_neg (by omega), Nat.sub_self, List.replicate_zero, List.append_nil, List.take_of_length_le (by simp)]) (Ev.now _))
      (fun i hi ih => Ev.step (f := fun k => laws_toPairS.l0 k l ((l.map toP).take (i + 1) ++ List.replicate (l.length - (i + 1)) z63) ((i + 1 : Nat) : Int)) (fun k => by
        simp only [laws_toPairS.l0]
        rw [if_pos (by omega), if_pos (by omega), rdLp_at hi]
        show (if (i : Int) < _ then laws_toPairS.l0 k l (List.set _ _ (toP l[i])) _ else none) = _
        rw [if_pos (by simp; omega), copy_map _ toP l i hi, succ_cast hi (by omega)]) ih) 0 (Nat.zero_le _)
    simpa using q

theorem toParty_ev (n : Int) (l : List Lp) (h : l.length ≤ 17592186044416) : Ev (fun k => laws_toParty.f k n l) (n, l.map toP) := by
  unfold laws_toParty.f
  exact Ev.bind (f := fun _ t => some (n, t)) (toPairS_ev l h) (Ev.now _)

theorem eqPair_eq (x : Pr) : laws_eqPair.f x.f0 x.f1 x.f0 x.f1 = some true := by
  unfold laws_eqPair.f
  rw [if_pos rfl, if_pos rfl]

theorem eqPairS_ev (l : List Pr) (h : l.length ≤ 9223372036854775807) : Ev (fun k => laws_eqPairS.f k l l) true := by
  refine Ev.congr (f := fun k => laws_eqPairS.l0 k l l 0) (fun k => ?_) ?_
  · unfold laws_eqPairS.f
    rw [if_pos rfl]
  · exact ev_up (n := l.length) (loop := fun k i => laws_eqPairS.l0 k l l (i : Int)) (r := fun _ => true)
      (Ev.step (f := fun _ => some true) (fun k => by simp [laws_eqPairS.l0]) (Ev.now true))
      (fun i hi ih => Ev.step (f := fun k => laws_eqPairS.l0 k l l ((i + 1 : Nat) : Int)) (fun k => by
        simp only [laws_eqPairS.l0]
        rw [if_pos (by omega), if_pos (by omega), if_pos (by omega), rdP_at hi, eqPair_eq, Option.bind_some, if_pos rfl, succ_cast hi h]) ih) 0 (Nat.zero_le _)

theorem eqParty_ev (n : Int) (l : List Pr) (h : l.length ≤ 9223372036854775807) : Ev (fun k => laws_eqParty.f k n l n l) true := by
  refine Ev.congr (f := fun k => (laws_eqPairS.f k l l).bind fun t => if t = true then some true else some false) (fun k => ?_) ?_
  · unfold laws_eqParty.f
    rw [if_pos rfl]
  · exact Ev.bind (f := fun _ t => if t = true then some true else some false) (eqPairS_ev l h) (ev_some (fun _ => rfl))
end Go.Proofs.Ytipblaifgpnebaa.Plain

/- The reference's test of a party. No condition but a length that fits. -/
namespace Go.Proofs.Ytipblaifgpnebaa.Plain
open Go.RowKit Go.Proofs.YtipblaifgpnebaaW.PrintWords Go.Proofs.YtipblaifgpnebaaW.PrintLast
set_option linter.unusedVariables false
open Q

/-- All pairs of n people. -/
def pairsOf (n : Nat) : List (Nat × Nat) := (List.range n).flatMap fun a => ((List.range n).filter fun b => decide (a < b)).map fun b => (a, b)

theorem pairsOf_length : ∀ n : Fin 13, (((pairsOf n.val).length : Nat) : Int) = (n.val : Int) * ((n.val : Int) - 1) / 2 := by decide +kernel

theorem mem_pairsOf {n a b : Nat} (h : a < b) (hb : b < n) : (a, b) ∈ pairsOf n := by
  unfold pairsOf
  rw [List.mem_flatMap]
  exact ⟨a, List.mem_range.mpr (by omega), List.mem_map.mpr ⟨b, List.mem_filter.mpr ⟨List.mem_range.mpr hb, by simpa using h⟩, rfl⟩⟩

/-- There are no more pairs in a party than pairs of its people. -/
theorem party_len {n : Nat} {l : List Pr} (hn : n ≤ 12) (hr : Right n l) (hs : ∀ i j, (hj : j < l.length) → (hij : i < j) → lessB l[i] l[j] = true) : (l.length : Int) ≤ (n : Int) * ((n : Int) - 1) / 2 := by
  have hnd : (l.map fun x => (x.f0.toNat, x.f1.toNat)).Nodup := by
    rw [List.nodup_iff_pairwise_ne, List.pairwise_iff_getElem]
    intro i j hi hj hij e
    simp only [List.length_map] at hi hj
    simp only [List.getElem_map, Prod.mk.injEq] at e
    have s := hs i j hj hij
    have r1 := hr _ (List.getElem_mem hi)
    have r2 := hr _ (List.getElem_mem hj)
    unfold lessB at s
    simp only [Bool.or_eq_true, Bool.and_eq_true, decide_eq_true_eq] at s
    omega
  have hsub : (l.map fun x => (x.f0.toNat, x.f1.toNat)) ⊆ pairsOf n := by
    intro p hp
    obtain ⟨x, hx, rfl⟩ := List.mem_map.1 hp
    have := hr x hx
    exact mem_pairsOf (by omega) (by omega)
  have h1 := List.Nodup.length_le_of_subset hnd hsub
  rw [List.length_map] at h1
  have h2 := pairsOf_length ⟨n, by omega⟩
  simp only [] at h2
  omega

theorem bound_eq {n : Int} (h0 : 0 ≤ n) (h1 : n ≤ 12) : wrap64 (Int.tdiv (wrap64 (n * (wrap64 (n - 1)))) 2) = n * (n - 1) / 2 := by
  have : n = 0 ∨ n = 1 ∨ n = 2 ∨ n = 3 ∨ n = 4 ∨ n = 5 ∨ n = 6 ∨ n = 7 ∨ n = 8 ∨ n = 9 ∨ n = 10 ∨ n = 11 ∨ n = 12 := by omega
  rcases this with rfl | rfl | rfl | rfl | rfl | rfl | rfl | rfl | rfl | rfl | rfl | rfl | rfl <;> decide +kernel

theorem paPeople_eq (n : Int) : spec_paPeople.f n = some (decide (0 ≤ n) && decide (n ≤ 12)) := by
  unfold spec_paPeople.f
  rw [l1In_eq]; rfl

theorem paGood_l0 (n : Int) (l : List Pr) (h0 : 0 ≤ n) (h1 : n ≤ 12) (h : l.length ≤ 9223372036854775807) : Ev (fun k => spec_paGood.l0 k l (l.length : Int) 0 n l) ((List.range l.length).all (okAt n l)) := by
  have q := ev_up (n := l.length) (loop := fun k i => spec_paGood.l0 k l (l.length : Int) (i : Int) n l) (r := fun i => ((List.range l.length).drop i).all (okAt n l))
    (Ev.step (f := fun _ => some true) (fun k => by simp only [spec_paGood.l0]; rw [if_neg (by omega)]) (by rw [all_end _ (Nat.le_refl _)]; exact Ev.now _))
    (fun i hi ih => by
      rw [all_step (okAt n l) hi]
      have e0 : okAt n l i = (pairOk n l[i] && (decide (i = 0) || lessB (rdP l ((i : Int) - 1)) l[i])) := by
        unfold okAt rdP; rw [rdP_at hi]
      have wn : wrap64 (n - 1) = n - 1 := wrap_id (by omega) (by omega)
      by_cases a1 : 0 ≤ l[i].f0 ∧ l[i].f0 ≤ n - 1
      · have w1 : wrap64 (l[i].f0 + 1) = l[i].f0 + 1 := wrap_id (by omega) (by omega)
        have b1 : (decide (0 ≤ l[i].f0) && decide (l[i].f0 ≤ n - 1)) = true := by simpa using a1
        by_cases a2 : l[i].f0 + 1 ≤ l[i].f1 ∧ l[i].f1 ≤ n - 1
        · have b2 : (decide (l[i].f0 + 1 ≤ l[i].f1) && decide (l[i].f1 ≤ n - 1)) = true := by simpa using a2
          have ep : pairOk n l[i] = true := by simp [pairOk]; omega
          by_cases a4 : i = 0
          · have e : okAt n l i = true := by rw [e0, ep, decide_eq_true a4]; simp
            rw [e]
            refine Ev.step (f := fun k => spec_paGood.l0 k l (l.length : Int) ((i + 1 : Nat) : Int) n l) (fun k => ?_) (by simpa using ih)
            simp only [spec_paGood.l0]
            rw [if_pos (by omega), if_pos (by omega), if_pos (by omega), rdP_at hi, wn, l1In_eq, b1, Option.bind_some, if_pos rfl, w1, l1In_eq, b2, Option.bind_some, if_pos rfl, if_neg (by omega), succ_cast hi h]
          · have ew : wrap64 ((i : Int) - 1) = ((i - 1 : Nat) : Int) := pred_cast (by omega) (by omega)
            have ew2 : ((i : Int) - 1) = ((i - 1 : Nat) : Int) := by omega
            have e : okAt n l i = lessB l[i-1] l[i] := by
              rw [e0, ep, decide_eq_false a4, ew2]
              unfold rdP
              rw [rdP_at (by omega)]; simp
            rw [e]
            refine Ev.step (f := fun k => if lessB l[i-1] l[i] = true then spec_paGood.l0 k l (l.length : Int) ((i + 1 : Nat) : Int) n l else some false) (fun k => ?_) ?_
            · simp only [spec_paGood.l0]
              rw [if_pos (by omega), if_pos (by omega), if_pos (by omega), rdP_at hi, wn, l1In_eq, b1, Option.bind_some, if_pos rfl, w1, l1In_eq, b2, Option.bind_some, if_pos rfl, if_pos (by omega), ew, if_pos (by omega), if_pos (by omega), rdP_at (by omega : i - 1 < l.length), paLess_eq, Option.bind_some, succ_cast hi h]
            · cases hb : lessB l[i-1] l[i] with
              | true => exact ev_if (fun _ => by simpa using ih) (fun h => absurd rfl h)
              | false => exact ev_some (fun _ => by simp)
        · have b2 : (decide (l[i].f0 + 1 ≤ l[i].f1) && decide (l[i].f1 ≤ n - 1)) = false := by
            rw [Bool.eq_false_iff]; intro q; exact a2 (by simpa using q)
          have e : okAt n l i = false := by rw [e0]; simp [pairOk]; omega
          rw [e]
          refine Ev.step (f := fun _ => some false) (fun k => ?_) (by simpa using Ev.now false)
          simp only [spec_paGood.l0]
          rw [if_pos (by omega), if_pos (by omega), if_pos (by omega), rdP_at hi, wn, l1In_eq, b1, Option.bind_some, if_pos rfl, w1, l1In_eq, b2, Option.bind_some, if_neg (by simp)]
      · have b1 : (decide (0 ≤ l[i].f0) && decide (l[i].f0 ≤ n - 1)) = false := by
          rw [Bool.eq_false_iff]; intro q; exact a1 (by simpa using q)
        have e : okAt n l i = false := by rw [e0]; simp [pairOk]; omega
        rw [e]
        refine Ev.step (f := fun _ => some false) (fun k => ?_) (by simpa using Ev.now false)
        simp only [spec_paGood.l0]
        rw [if_pos (by omega), if_pos (by omega), if_pos (by omega), rdP_at hi, wn, l1In_eq, b1, Option.bind_some, if_neg (by simp)]) 0 (Nat.zero_le _)
  simpa using q

theorem paGood_ev (n : Int) (l : List Pr) (h : l.length ≤ 9223372036854775807) : Ev (fun k => spec_paGood.f k n l) (party n l) := by
  unfold spec_paGood.f
  refine ev_bind0 (paPeople_eq n) ?_
  cases hb : (decide (0 ≤ n) && decide (n ≤ 12)) with
  | false =>
    have e : party n l = false := by unfold party; rw [hb]; rfl
    rw [e]
    refine ev_if (fun h => by simp at h) (fun _ => ?_)
    exact Ev.step (f := fun _ => some false) (fun k => by simp [spec_paGood.j0]) (Ev.now _)
  | true =>
    have hn : 0 ≤ n ∧ n ≤ 12 := by simpa using hb
    have e : party n l = (List.range l.length).all (okAt n l) := by unfold party; rw [hb]; rfl
    refine ev_if (fun _ => ?_) (fun h => absurd rfl h)
    rw [bound_eq hn.1 hn.2]
    by_cases c : (l.length : Int) > n * (n - 1) / 2
    · refine Ev.step (f := fun _ => some false) (fun k => ?_) ?_
      · simp only [spec_paGood.j0]
        rw [if_pos (decide_eq_true c)]
      · cases hp : party n l with
        | false => exact Ev.now _
        | true =>
          exfalso
          obtain ⟨m, rfl, h12, hr, hs⟩ := party_right hp
          have := party_len h12 hr hs
          omega
    · rw [e]
      refine Ev.step (f := fun k => spec_paGood.l0 k l (l.length : Int) 0 n l) (fun k => ?_) (paGood_l0 n l hn.1 hn.2 h)
      simp only [spec_paGood.j0]
      rw [if_neg (by simpa using c)]
end Go.Proofs.Ytipblaifgpnebaa.Plain

/- The laws' marks: written into a list and found again. No condition but a length that fits. -/
namespace Go.Proofs.Ytipblaifgpnebaa.Plain
open Go.RowKit Go.Proofs.YtipblaifgpnebaaW.PrintWords Go.Proofs.YtipblaifgpnebaaW.PrintLast
set_option linter.unusedVariables false
open Q

/-- The marks of n pairs from v on. -/
def marksP (v : Int) (n : Nat) : List Pr := (List.range n).map fun i : Nat => ⟨v + 2 * (i : Int), v + 2 * (i : Int) + 1⟩
theorem marksP_length (v : Int) (n : Nat) : (marksP v n).length = n := by simp [marksP]
theorem marksP_get {v : Int} {n i : Nat} (h : i < (marksP v n).length) : (marksP v n)[i] = ⟨v + 2 * (i : Int), v + 2 * (i : Int) + 1⟩ := by simp [marksP]
theorem marksP_step (v : Int) (l : List Pr) {i : Nat} (hi : i < l.length) (x : Pr) (hx : x = ⟨v + 2 * (i : Int), v + 2 * (i : Int) + 1⟩) : (marksP v i ++ l.drop i).set i x = marksP v (i + 1) ++ l.drop (i + 1) := by
  apply List.ext_getElem
  · simp [marksP_length]; omega
  · intro j h1 h2
    rw [List.getElem_set]
    by_cases e : i = j
    · subst e
      rw [if_pos rfl, List.getElem_append_left (by rw [marksP_length]; omega), marksP_get, hx]
    · rw [if_neg e]
      by_cases c : j < i
      · rw [List.getElem_append_left (by rw [marksP_length]; omega), List.getElem_append_left (by rw [marksP_length]; omega), marksP_get, marksP_get]
      · rw [List.getElem_append_right (by rw [marksP_length]; omega), List.getElem_append_right (by rw [marksP_length]; omega), List.getElem_drop, List.getElem_drop]
        congr 1
        rw [marksP_length, marksP_length]
        omega
theorem markPairS_ev (l : List Pr) (v : Int) (h : l.length ≤ 1152921504606846976) (h0 : 0 ≤ v) (h1 : v ≤ 1000) : Ev (fun k => laws_markPairS.f k l v) (v + 2 * (l.length : Int), marksP v l.length) := by
  have q := ev_up (n := l.length) (loop := fun k i => laws_markPairS.l0 k (marksP v i ++ l.drop i) (v + 2 * (i : Int)) (i : Int)) (r := fun _ => (v + 2 * (l.length : Int), marksP v l.length))
    (by
      refine Ev.step (f := fun _ => some (v + 2 * (l.length : Int), marksP v l.length)) (fun k => ?_) (Ev.now _)
      simp only [laws_markPairS.l0]
      rw [List.drop_length, List.append_nil, if_neg (by rw [marksP_length]; omega)])
    (fun i hi ih => by
      have hlen : (marksP v i ++ l.drop i).length = l.length := by rw [List.length_append, marksP_length, List.length_drop]; omega
      have w1 : wrap64 (v + 2 * (i : Int) + 1) = v + 2 * (i : Int) + 1 := wrap_id (by omega) (by omega)
      have w2 : wrap64 (v + 2 * (i : Int) + 1 + 1) = v + 2 * ((i + 1 : Nat) : Int) := by rw [wrap_id (by omega) (by omega)]; omega
      refine Ev.step (f := fun k => laws_markPairS.l0 k (marksP v (i + 1) ++ l.drop (i + 1)) (v + 2 * ((i + 1 : Nat) : Int)) ((i + 1 : Nat) : Int)) (fun k => ?_) ih
      simp only [laws_markPairS.l0]
      rw [if_pos (by rw [hlen]; omega), if_pos (by omega), Option.bind_some, w1, w2, succ_cast hi (by omega), Int.toNat_natCast, List.set_set]
      rw [marksP_step v l hi _ (by rw [rdP_at (by rw [List.length_set, hlen]; exact hi), List.getElem_set_self])]) 0 (Nat.zero_le _)
  have e : marksP v 0 ++ l.drop 0 = l := by simp [marksP]
  rw [e] at q
  simpa [laws_markPairS.f] using q

theorem heldPairS_ev (n : Nat) (v : Int) (h : n ≤ 1152921504606846976) (h0 : 0 ≤ v) (h1 : v ≤ 1000) : Ev (fun k => laws_heldPairS.f k (marksP v n) v) (v + 2 * (n : Int)) := by
  have hl := marksP_length v n
  have q := ev_up (n := n) (loop := fun k i => laws_heldPairS.l0 k (marksP v n) (v + 2 * (i : Int)) (i : Int)) (r := fun _ => v + 2 * (n : Int))
    (Ev.step (f := fun _ => some (v + 2 * (n : Int))) (fun k => by simp only [laws_heldPairS.l0]; rw [if_neg (by rw [hl]; omega)]) (Ev.now _))
    (fun i hi ih => by
      have w1 : wrap64 (v + 2 * (i : Int) + 1) = v + 2 * (i : Int) + 1 := wrap_id (by omega) (by omega)
      have w2 : wrap64 (v + 2 * (i : Int) + 1 + 1) = v + 2 * ((i + 1 : Nat) : Int) := by rw [wrap_id (by omega) (by omega)]; omega
      refine Ev.step (f := fun k => laws_heldPairS.l0 k (marksP v n) (v + 2 * ((i + 1 : Nat) : Int)) ((i + 1 : Nat) : Int)) (fun k => ?_) ih
      simp only [laws_heldPairS.l0]
      rw [if_pos (by rw [hl]; omega), if_pos (by omega), rdP_at (by rw [hl]; exact hi), marksP_get, if_pos rfl, w1, if_pos rfl, w2, succ_cast hi (by omega)]) 0 (Nat.zero_le _)
  simpa [laws_heldPairS.f] using q

theorem markParty_ev (n : Int) (l : List Pr) (h : l.length ≤ 1152921504606846976) : Ev (fun k => laws_markParty.f k n l 1) (1 + 2 * (l.length : Int), marksP 1 l.length) := by
  unfold laws_markParty.f
  exact Ev.bind (f := fun _ bt => some (bt.1, bt.2)) (markPairS_ev l 1 h (by omega) (by omega)) (Ev.now _)

theorem heldParty_ev (n : Int) (m : Nat) (h : m ≤ 1152921504606846976) : Ev (fun k => laws_heldParty.f k n (marksP 1 m) 1) (1 + 2 * (m : Int)) := by
  unfold laws_heldParty.f
  refine Ev.bind (heldPairS_ev m 1 h (by omega) (by omega)) ?_
  exact ev_if (fun q => by omega) (fun _ => Ev.now _)
end Go.Proofs.Ytipblaifgpnebaa.Plain
/- The program's LinesOf returns what the reference's returns, for all arguments. No condition. -/
namespace Go.Proofs.Ytipblaifgpnebaa.Pure
open Go.RowKit Go.Proofs.YtipblaifgpnebaaW.PrintWords Go.Proofs.YtipblaifgpnebaaW.PrintLast
set_option linter.unusedVariables false
open Q Plain

/-- What both sides tell. -/
def lines (n : Int) (l : List Pr) : Int × List Pr × Bool := if party n l = true ∧ l.length ≤ 12 then ((l.length : Int), pairsF l.length (cellB l true), true) else (0, [], false)

theorem spec_ev (n : Int) (l : List Pr) (h : l.length ≤ 9223372036854775807) : Ev (fun k => spec_LinesOf.f k n l) (lines n l) := by
  unfold spec_LinesOf.f lines
  refine Ev.bind (paGood_ev n l h) ?_
  refine ev_if (fun b => ?_) (fun b => by rw [if_neg (fun q => b q.1)]; exact Ev.now _)
  refine ev_if (fun c => by rw [if_neg (fun q => by omega)]; exact Ev.now _) (fun c => ?_)
  rw [if_pos ⟨b, by omega⟩]
  exact Ev.bind (f := fun _ bt => some (bt.1, bt.2, true)) (cfPairs_ev l true (by omega)) (Ev.now _)

theorem impl_ev (n : Int) (l : List Pr) (h : l.length ≤ 9223372036854775807) : Ev (fun k => impl_LinesOf.f k n l) (lines n l) := by
  unfold impl_LinesOf.f
  refine Ev.bind (isParty_ev n l h) ?_
  have bad : ¬ (party n l = true ∧ l.length ≤ 12) → Ev (fun k => impl_LinesOf.j0 k true n l) (lines n l) := by
    intro hb
    unfold lines
    rw [if_neg hb]
    refine Ev.step (f := fun _ => some (0, [], false)) (fun k => ?_) (Ev.now _)
    simp only [impl_LinesOf.j0]
    rfl
  refine ev_if (fun b => ?_) (fun b => bad (fun q => b q.1))
  by_cases c : (l.length : Int) > 12
  · rw [decide_eq_true c]
    exact bad (fun q => by omega)
  · rw [decide_eq_false c]
    unfold lines
    rw [if_pos ⟨b, by omega⟩]
    refine Ev.step (f := fun k => impl_LinesOf.l0 k (List.replicate l.length 0) l (l.length : Int) 0 n l) (fun k => ?_) (linesL_ev n l (by omega))
    simp only [impl_LinesOf.j0]
    rw [if_neg (by simp), if_pos (by omega), Int.toNat_natCast, if_pos (by omega)]

theorem lines_len (n : Int) (l : List Pr) : (lines n l).2.1.length ≤ 1000 := by
  unfold lines
  by_cases h : party n l = true ∧ l.length ≤ 12
  · rw [if_pos h]
    exact pairsF_length h.2 _
  · rw [if_neg h]; simp

theorem FnExactLinesOf : laws_FnExactLinesOf.Pure := by
  intro n l _ hl _
  refine Ev.rounds (g := fun k => laws_FnExactLinesOf.f k n l) ?_
  unfold laws_FnExactLinesOf.f
  refine ev_bind0 (szParty_eq n l 1048576 (by omega) (by omega) hl) ?_
  refine ev_if (fun _ => Ev.now _) (fun hb => ?_)
  have hs : l.length ≤ 1048576 := by
    by_cases h : (1048576 : Int) < (l.length : Int)
    · rw [if_pos h] at hb; omega
    · omega
  have hT := toParty_ev n l (by omega)
  have hl2 : (l.map toP).length ≤ 1048576 := by rw [List.length_map]; exact hs
  generalize hL : l.map toP = L at hT hl2
  have hS := spec_ev n L (by omega)
  have hI := impl_ev n L (by omega)
  have hp := lines_len n L
  generalize lines n L = z at hS hI hp
  obtain ⟨p, ps, ok⟩ := z
  replace hp : ps.length ≤ 1000 := hp
  have hE := eqParty_ev p ps (by omega)
  have hEL := eqParty_ev n L (by omega)
  refine Ev.bind hT ?_
  refine Ev.bind hS ?_
  refine Ev.bind hT ?_
  refine Ev.bind hI ?_
  refine Ev.bind hE ?_
  refine ev_if (fun _ => ?_) (fun h => absurd rfl h)
  have hneq : (ok != ok) = false := by simp
  show Ev (fun k => laws_FnExactLinesOf.j0 k ok ok (ok != ok) n l p ps n L p ps) true
  rw [hneq]
  have j2 : Ev (fun k => laws_FnExactLinesOf.j2 k (1 + 2 * (ps.length : Int)) false p (marksP 1 ps.length)) true := by
    refine Ev.step (f := fun k => (laws_heldParty.f k p (marksP 1 ps.length) 1).bind fun t => if t < 0 then some false else if t = 1 + 2 * (ps.length : Int) then some true else some false) (fun k => ?_) ?_
    · simp only [laws_FnExactLinesOf.j2]
      rfl
    · refine Ev.bind (heldParty_ev p _ (by omega)) ?_
      exact ev_if (fun q => by omega) (fun _ => ev_if (fun _ => Ev.now _) (fun h => absurd rfl h))
  have j1 : Ev (fun k => laws_FnExactLinesOf.j1 k ok false n l p ps p ps) true := by
    refine Ev.step (f := fun k => (laws_markParty.f k p ps 1).bind fun bt795 => ((laws_heldParty.f k p bt795.2 1).bind fun t797 => (if t797 < 0 then (some false) else (if t797 = bt795.1 then ((laws_toParty.f k n l).bind fun bt798 => ((impl_LinesOf.f k bt798.1 bt798.2).bind fun bt802 => ((laws_eqParty.f k bt802.1 bt802.2.1 p ps).bind fun t808 => (if t808 = true then (laws_FnExactLinesOf.j2 k bt795.1 (bt802.2.2 != ok) p bt795.2) else (laws_FnExactLinesOf.j2 k bt795.1 true p bt795.2))))) else (some false))))) (fun k => ?_) ?_
    · simp only [laws_FnExactLinesOf.j1]
      rfl
    · refine Ev.bind (markParty_ev p ps (by omega)) ?_
      refine Ev.bind (heldParty_ev p _ (by omega)) ?_
      refine ev_if (fun q => by omega) (fun _ => ev_if (fun _ => ?_) (fun h => absurd rfl h))
      refine Ev.bind hT ?_
      refine Ev.bind hI ?_
      refine Ev.bind hE ?_
      refine ev_if (fun _ => ?_) (fun h => absurd rfl h)
      show Ev (fun k => laws_FnExactLinesOf.j2 k (1 + 2 * (ps.length : Int)) (ok != ok) p (marksP 1 ps.length)) true
      rw [hneq]
      exact j2
  refine Ev.step (f := fun k => (laws_toParty.f k n l).bind fun bt787 => ((laws_eqParty.f k n L bt787.1 bt787.2).bind fun t791 => (if t791 = true then ((laws_markParty.f k n L 1).bind fun bt792 => (if bt792.1 < 0 then (laws_FnExactLinesOf.j1 k ok true n l p ps p ps) else ((laws_eqParty.f k p ps p ps).bind fun t794 => (if t794 = true then (laws_FnExactLinesOf.j1 k ok (ok != ok) n l p ps p ps) else (laws_FnExactLinesOf.j1 k ok true n l p ps p ps))))) else (some false)))) (fun k => ?_) ?_
  · simp only [laws_FnExactLinesOf.j0]
    rfl
  · refine Ev.bind hT ?_
    refine Ev.bind hEL ?_
    refine ev_if (fun _ => ?_) (fun h => absurd rfl h)
    refine Ev.bind (markParty_ev n L (by omega)) ?_
    refine ev_if (fun (q : 1 + 2 * (L.length : Int) < 0) => by omega) (fun _ => ?_)
    refine Ev.bind hE ?_
    refine ev_if (fun _ => ?_) (fun h => absurd rfl h)
    rw [hneq]
    exact j1
end Go.Proofs.Ytipblaifgpnebaa.Pure
