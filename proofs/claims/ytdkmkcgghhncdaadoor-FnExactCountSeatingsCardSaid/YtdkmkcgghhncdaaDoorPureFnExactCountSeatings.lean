import Derived.Test.YtdkmkcgghhncdaaDoorQ0
import Derived.Test.YtdkmkcgghhncdaaDoorQ7
import Derived.Test.YtdkmkcgghhncdaaDoorQ8
import Derived.Test.YtdkmkcgghhncdaaDoorQ15
import Derived.Test.YtdkmkcgghhncdaaDoorQ23
import Derived.Test.YtdkmkcgghhncdaaDoorQ30
import Derived.Test.YtdkmkcgghhncdaaDoorQ33
import Derived.Test.YtdkmkcgghhncdaaDoorQ34
import Derived.Test.YtdkmkcgghhncdaaDoorSayFnExactCountSeatings
/- Plain lemmas over rounds, lists and whole numbers, for the pure statements of this seat. No condition. -/
namespace Go.Proofs.YtdkmkcgghhncdaaDoor.Plain
open Go.RowKit Go.Proofs.YtdkmkcgghhncdaaDoorW.PrintWords Go.Proofs.YtdkmkcgghhncdaaDoorW.PrintLast
set_option linter.unusedVariables false

theorem wrap_id {x : Int} (h0 : -9223372036854775808 ≤ x) (h1 : x ≤ 9223372036854775807) : wrap64 x = x := by
  unfold wrap64
  omega

theorem rd_at {l : List Int} {i : Nat} (h : i < l.length) : rd l (i : Int) = l[i] := by
  simp [rd, List.getD, h]

theorem ev_some {α : Type} {g : Nat → Option α} {r : α} (h : ∀ k, g k = some r) : Ev g r := ⟨0, fun k _ => h k⟩

theorem ev_bind0 {α β : Type} {g : Option α} {f : Nat → α → Option β} {a : α} {r : β} (h : g = some a) (k : Ev (fun n => f n a) r) : Ev (fun n => g.bind (f n)) r := by
  obtain ⟨K, hK⟩ := k
  refine ⟨K, fun n hn => ?_⟩
  show g.bind (f n) = some r
  rw [h]
  exact hK n hn

theorem ev_if {α : Type} {c : Prop} [Decidable c] {f g : Nat → Option α} {r : α} (hf : c → Ev f r) (hg : ¬ c → Ev g r) : Ev (fun n => if c then f n else g n) r := by
  by_cases h : c
  · obtain ⟨K, hK⟩ := hf h
    exact ⟨K, fun n hn => (if_pos h).trans (hK n hn)⟩
  · obtain ⟨K, hK⟩ := hg h
    exact ⟨K, fun n hn => (if_neg h).trans (hK n hn)⟩

/-- A loop over an index, from any index on, in one shape. -/
theorem ev_up {α : Type} {n : Nat} {loop : Nat → Nat → Option α} {r : Nat → α} (hend : Ev (fun k => loop k n) (r n)) (hstep : ∀ i, i < n → (Ev (fun k => loop k (i + 1)) (r (i + 1)) → Ev (fun k => loop k i) (r i))) :
    ∀ i, i ≤ n → Ev (fun k => loop k i) (r i) := by
  intro i hi
  have : ∀ d i, i ≤ n → n - i = d → Ev (fun k => loop k i) (r i) := by
    intro d
    induction d with
    | zero =>
      intro i hi hd
      have e : i = n := by omega
      rw [e]; exact hend
    | succ d ih =>
      intro i hi hd
      exact hstep i (by omega) (ih (i + 1) (by omega) (by omega))
  exact this (n - i) i hi rfl
theorem all_step (f : Nat → Bool) {m i : Nat} (h : i < m) : ((List.range m).drop i).all f = (f i && ((List.range m).drop (i + 1)).all f) := by
  rw [List.drop_eq_getElem_cons (by simpa using h), List.all_cons, List.getElem_range]
theorem all_end (f : Nat → Bool) {m i : Nat} (h : m ≤ i) : ((List.range m).drop i).all f = true := by
  rw [List.drop_of_length_le (by simpa using h)]; rfl
theorem succ_cast {i n : Nat} (h : i < n) (hn : n ≤ 9223372036854775807) : wrap64 ((i : Int) + 1) = ((i + 1 : Nat) : Int) := by
  rw [wrap_id (by omega) (by omega)]; rfl
theorem pred_cast {i : Nat} (h : 1 ≤ i) (hn : i ≤ 9223372036854775807) : wrap64 ((i : Int) - 1) = ((i - 1 : Nat) : Int) := by
  rw [wrap_id (by omega) (by omega)]; omega
end Go.Proofs.YtdkmkcgghhncdaaDoor.Plain

/- The law's own functions over lists of whole numbers: copies, equality, bounds. No condition but lengths that fit. -/
namespace Go.Proofs.YtdkmkcgghhncdaaDoor.Plain
open Go.RowKit Go.Proofs.YtdkmkcgghhncdaaDoorW.PrintWords Go.Proofs.YtdkmkcgghhncdaaDoorW.PrintLast
set_option linter.unusedVariables false
open Q

theorem l1In_eq (a b c : Int) : spec_l1In.f a b c = some (decide (b ≤ a) && decide (a ≤ c)) := by
  unfold spec_l1In.f
  by_cases h : b ≤ a <;> simp [h]

theorem within_eq (a b c : Int) : impl_within.f a b c = some (decide (b ≤ a) && decide (a ≤ c)) := by
  unfold impl_within.f
  by_cases h : b ≤ a <;> simp [h]

end Go.Proofs.YtdkmkcgghhncdaaDoor.Plain

/- Is a number in a list: the reference's way. No condition but a length that fits. -/
namespace Go.Proofs.YtdkmkcgghhncdaaDoor.Plain
open Go.RowKit Go.Proofs.YtdkmkcgghhncdaaDoorW.PrintWords Go.Proofs.YtdkmkcgghhncdaaDoorW.PrintLast
set_option linter.unusedVariables false
open Q

theorem l1Has_ev (l : List Int) (a : Int) (h : l.length ≤ 9223372036854775807) : Ev (fun k => spec_l1Has.f k l a) (l.contains a) := by
  have q := ev_up (n := l.length) (loop := fun k i => spec_l1Has.l0 k a l (l.length : Int) (i : Int)) (r := fun i => (l.drop i).contains a)
    (Ev.step (f := fun _ => some false) (fun k => by simp [spec_l1Has.l0]) (by simpa using Ev.now false))
    (fun i hi ih => by
      rw [List.drop_eq_getElem_cons hi, List.contains_cons]
      by_cases e : l[i] = a
      · refine Ev.step (f := fun _ => some true) (fun k => ?_) (by rw [e]; simpa using Ev.now true)
        simp only [spec_l1Has.l0]
        rw [if_pos (by omega), if_pos (by omega), if_pos (by omega), rd_at hi, if_pos e]
      · refine Ev.step (f := fun k => spec_l1Has.l0 k a l (l.length : Int) ((i + 1 : Nat) : Int)) (fun k => ?_) ?_
        · simp only [spec_l1Has.l0]
          rw [if_pos (by omega), if_pos (by omega), if_pos (by omega), rd_at hi, if_neg e, succ_cast hi h]
        · have : (a == l[i]) = false := by simpa using fun q => e q.symm
          rw [this, Bool.false_or]; exact ih) 0 (Nat.zero_le _)
  simpa [spec_l1Has.f] using q
end Go.Proofs.YtdkmkcgghhncdaaDoor.Plain

/- slices.Index and slices.Contains over whole numbers. No condition but a length that fits. -/
namespace Go.Proofs.YtdkmkcgghhncdaaDoor.Plain
open Go.RowKit Go.Proofs.YtdkmkcgghhncdaaDoorW.PrintWords Go.Proofs.YtdkmkcgghhncdaaDoorW.PrintLast
set_option linter.unusedVariables false
open Q

end Go.Proofs.YtdkmkcgghhncdaaDoor.Plain

/- Parties: both sides' tests, and the law's own functions over parties. No condition but lengths that fit. -/
namespace Go.Proofs.YtdkmkcgghhncdaaDoor.Plain
open Go.RowKit Go.Proofs.YtdkmkcgghhncdaaDoorW.PrintWords Go.Proofs.YtdkmkcgghhncdaaDoorW.PrintLast
set_option linter.unusedVariables false
open Q

abbrev Pr := S68
abbrev rdP (l : List Pr) (i : Int) : Pr := rd_T68 l i

theorem rdP_at {l : List Pr} {i : Nat} (h : i < l.length) : rd_T68 l (i : Int) = l[i] := by
  simp [rd_T68, List.getD, h]

def pairOk (n : Int) (x : Pr) : Bool := decide (0 ≤ x.f0) && (decide (x.f0 < x.f1) && decide (x.f1 < n))
def lessB (x y : Pr) : Bool := decide (x.f0 < y.f0) || (decide (x.f0 = y.f0) && decide (x.f1 < y.f1))
/-- The pair at an index is right, and comes behind the one before. -/
def okAt (n : Int) (l : List Pr) (i : Nat) : Bool := pairOk n (rdP l i) && (decide (i = 0) || lessB (rdP l ((i : Int) - 1)) (rdP l i))
def party (n : Int) (l : List Pr) : Bool := (decide (0 ≤ n) && decide (n ≤ 12)) && (List.range l.length).all (okAt n l)

theorem paLess_eq (x y : Pr) : spec_paLess.f x.f0 x.f1 y.f0 y.f1 = some (lessB x y) := by
  unfold spec_paLess.f lessB
  by_cases h : x.f0 < y.f0
  · rw [if_pos h, decide_eq_true h]; rfl
  · rw [if_neg h, decide_eq_false h]
    by_cases h2 : x.f0 = y.f0
    · rw [if_pos h2, decide_eq_true h2]; simp
    · rw [if_neg h2, decide_eq_false h2]; simp

/-- Compared as the library compares whole numbers. -/
def cmpI (a b : Int) : Int := if a < b then -1 else if a > b then 1 else 0
theorem compare_eq (a b : Int) : cmp_Compare_int.f a b = some (cmpI a b) := by
  unfold cmp_Compare_int.f cmp_isNaN_int.f cmpI
  simp
  by_cases h : a < b
  · simp [h]
  · by_cases h2 : b < a <;> simp [h, h2]

theorem or_two (a b : Int) : Ev (fun k => cmp_Or_int.f k [a, b]) (if a = 0 then b else a) := by
  refine Ev.of (fun k => cmp_Or_int.mono [a, b] k) (k := 3) ?_
  by_cases h : a = 0
  · by_cases h2 : b = 0
    · simp [cmp_Or_int.f, cmp_Or_int.l0, rd, h, h2, wrap64]
    · simp [cmp_Or_int.f, cmp_Or_int.l0, rd, h, h2, wrap64]
  · simp [cmp_Or_int.f, cmp_Or_int.l0, rd, h]

theorem comparePairs_ev (x y : Pr) : Ev (fun k => impl_comparePairs.f k x.f0 x.f1 y.f0 y.f1) (if cmpI x.f0 y.f0 = 0 then cmpI x.f1 y.f1 else cmpI x.f0 y.f0) := by
  unfold impl_comparePairs.f
  refine ev_bind0 (compare_eq _ _) ?_
  refine ev_bind0 (compare_eq _ _) ?_
  exact Ev.bind (f := fun _ t => some t) (or_two _ _) (Ev.now _)

theorem compare_less (x y : Pr) : ((if cmpI x.f0 y.f0 = 0 then cmpI x.f1 y.f1 else cmpI x.f0 y.f0) ≥ 0) ↔ lessB x y = false := by
  unfold cmpI lessB
  by_cases h1 : x.f0 < y.f0
  · simp [h1]
  · by_cases h2 : y.f0 < x.f0
    · have : ¬ x.f0 = y.f0 := by omega
      simp [h1, h2, this]
    · have e : x.f0 = y.f0 := by omega
      by_cases h3 : x.f1 < y.f1
      · simp [e, h3]
      · by_cases h4 : y.f1 < x.f1 <;> simp [e, h3, h4]

theorem areCrowd_eq (n : Int) : impl_areCrowd.f n = some (decide (0 ≤ n) && decide (n ≤ 12)) := by
  unfold impl_areCrowd.f
  rw [within_eq]; rfl

theorem isParty_ev (n : Int) (l : List Pr) (h : l.length ≤ 9223372036854775807) : Ev (fun k => impl_IsParty.f k n l) (party n l) := by
  have q := ev_up (n := l.length) (loop := fun k i => impl_IsParty.l0 k l (l.length : Int) (i : Int) n l) (r := fun i => (decide (0 ≤ n) && decide (n ≤ 12)) && ((List.range l.length).drop i).all (okAt n l))
    (Ev.step (f := fun _ => some (decide (0 ≤ n) && decide (n ≤ 12))) (fun k => by
        simp only [impl_IsParty.l0]
        rw [if_neg (by omega), areCrowd_eq]; rfl) (by rw [all_end _ (Nat.le_refl _), Bool.and_true]; exact Ev.now _))
    (fun i hi ih => by
      rw [all_step (okAt n l) hi]
      have e0 : okAt n l i = (pairOk n l[i] && (decide (i = 0) || lessB (rdP l ((i : Int) - 1)) l[i])) := by
        unfold okAt rdP; rw [rdP_at hi]
      by_cases a1 : l[i].f0 < 0
      · have e : okAt n l i = false := by rw [e0]; simp [pairOk]; omega
        rw [e]
        refine Ev.step (f := fun _ => some false) (fun k => ?_) (by simpa using Ev.now false)
        simp only [impl_IsParty.l0]
        rw [if_pos (by omega), if_pos (by omega), if_pos (by omega), rdP_at hi, if_pos a1]
      by_cases a2 : l[i].f0 ≥ l[i].f1
      · have e : okAt n l i = false := by rw [e0]; simp [pairOk]; omega
        rw [e]
        refine Ev.step (f := fun _ => some false) (fun k => ?_) (by simpa using Ev.now false)
        simp only [impl_IsParty.l0]
        rw [if_pos (by omega), if_pos (by omega), if_pos (by omega), rdP_at hi, if_neg a1, if_pos a2]
      by_cases a3 : l[i].f1 ≥ n
      · have e : okAt n l i = false := by rw [e0]; simp [pairOk]; omega
        rw [e]
        refine Ev.step (f := fun _ => some false) (fun k => ?_) (by simpa using Ev.now false)
        simp only [impl_IsParty.l0]
        rw [if_pos (by omega), if_pos (by omega), if_pos (by omega), rdP_at hi, if_neg a1, if_neg a2, if_pos a3]
      have ep : pairOk n l[i] = true := by simp [pairOk]; omega
      by_cases a4 : i = 0
      · have e : okAt n l i = true := by rw [e0, ep, decide_eq_true a4]; simp
        rw [e]
        refine Ev.step (f := fun k => impl_IsParty.l0 k l (l.length : Int) ((i + 1 : Nat) : Int) n l) (fun k => ?_) (by simpa using ih)
        simp only [impl_IsParty.l0]
        rw [if_pos (by omega), if_pos (by omega), if_pos (by omega), rdP_at hi, if_neg a1, if_neg a2, if_neg a3, if_neg (by omega), succ_cast hi h]
      · have ew : wrap64 ((i : Int) - 1) = ((i - 1 : Nat) : Int) := by rw [wrap_id (by omega) (by omega)]; omega
        have ew2 : ((i : Int) - 1) = ((i - 1 : Nat) : Int) := by omega
        have e : okAt n l i = lessB l[i-1] l[i] := by
          rw [e0, ep, decide_eq_false a4, ew2]
          unfold rdP
          rw [rdP_at (by omega)]; simp
        rw [e]
        refine Ev.step (f := fun k => (impl_comparePairs.f k l[i-1].f0 l[i-1].f1 l[i].f0 l[i].f1).bind fun t => if t ≥ 0 then some false else impl_IsParty.l0 k l (l.length : Int) ((i + 1 : Nat) : Int) n l) (fun k => ?_) ?_
        · simp only [impl_IsParty.l0]
          rw [if_pos (by omega), if_pos (by omega), if_pos (by omega), rdP_at hi, if_neg a1, if_neg a2, if_neg a3, if_pos (by omega), if_pos (by omega), if_pos (by omega), ew, rdP_at (by omega : i - 1 < l.length), succ_cast hi h]
        · refine Ev.bind (comparePairs_ev _ _) ?_
          refine ev_if (fun b => ?_) (fun b => ?_)
          · rw [(compare_less _ _).mp b]; simpa using Ev.now false
          · have : lessB l[i-1] l[i] = true := by
              cases hb : lessB l[i-1] l[i] with
              | true => rfl
              | false => exact absurd ((compare_less _ _).mpr hb) b
            rw [this]; simpa using ih) 0 (Nat.zero_le _)
  simpa [impl_IsParty.f, party] using q

/-! What a party is, in words of numbers. -/
theorem party_of {n : Int} {l : List Pr} (h : party n l = true) : 0 ≤ n ∧ n ≤ 12 ∧ (∀ i, (hi : i < l.length) → 0 ≤ l[i].f0 ∧ l[i].f0 < l[i].f1 ∧ l[i].f1 < n) ∧ (∀ i, (hi : i + 1 < l.length) → lessB l[i] l[i+1] = true) := by
  unfold party at h
  simp only [Bool.and_eq_true, decide_eq_true_eq, List.all_eq_true, List.mem_range] at h
  obtain ⟨⟨h1, h2⟩, h3⟩ := h
  refine ⟨h1, h2, fun i hi => ?_, fun i hi => ?_⟩
  · have q := h3 i hi
    unfold okAt rdP at q
    rw [rdP_at hi] at q
    simp only [Bool.and_eq_true, pairOk, decide_eq_true_eq] at q
    exact q.1
  · have q := h3 (i + 1) hi
    unfold okAt rdP at q
    rw [show (((i + 1 : Nat) : Int) - 1) = ((i : Nat) : Int) by omega, rdP_at hi, rdP_at (by omega : i < l.length)] at q
    simpa using (Bool.and_eq_true _ _ ▸ q).2
end Go.Proofs.YtdkmkcgghhncdaaDoor.Plain

/- A party as a relation between people; sets of people as numbers; how many hold. Plain lemmas. No condition. -/
namespace Go.Proofs.YtdkmkcgghhncdaaDoor.Plain
open Go.RowKit Go.Proofs.YtdkmkcgghhncdaaDoorW.PrintWords Go.Proofs.YtdkmkcgghhncdaaDoorW.PrintLast
set_option linter.unusedVariables false
open Q

/-- Are two people friends. -/
def adj (l : List Pr) (a b : Nat) : Bool := l.any fun x => (decide (x.f0 = (a : Int)) && decide (x.f1 = (b : Int))) || (decide (x.f0 = (b : Int)) && decide (x.f1 = (a : Int)))

theorem adj_comm (l : List Pr) (a b : Nat) : adj l a b = adj l b a := by
  unfold adj
  congr 1
  funext x
  rw [Bool.or_comm]
theorem adj_nil (a b : Nat) : adj [] a b = false := rfl
theorem adj_snoc (l : List Pr) (x : Pr) (a b : Nat) : adj (l ++ [x]) a b = (adj l a b || ((decide (x.f0 = (a : Int)) && decide (x.f1 = (b : Int))) || (decide (x.f0 = (b : Int)) && decide (x.f1 = (a : Int))))) := by
  unfold adj
  rw [List.any_append]
  simp
/-- All pairs are right for n people. -/
def Right (n : Nat) (l : List Pr) : Prop := ∀ x ∈ l, 0 ≤ x.f0 ∧ x.f0 < x.f1 ∧ x.f1 < (n : Int)
theorem Right.take {n : Nat} {l : List Pr} (h : Right n l) (i : Nat) : Right n (l.take i) := fun x hx => h x (List.mem_of_mem_take hx)

theorem lessB_trans {x y z : Pr} (h1 : lessB x y = true) (h2 : lessB y z = true) : lessB x z = true := by
  unfold lessB at *
  simp only [Bool.or_eq_true, Bool.and_eq_true, decide_eq_true_eq] at *
  omega
theorem sorted_lt {l : List Pr} (h : ∀ i, (hi : i + 1 < l.length) → lessB l[i] l[i+1] = true) : ∀ d i, (hi : i + 1 + d < l.length) → lessB l[i] l[i + 1 + d] = true := by
  intro d
  induction d with
  | zero => intro i hi; exact h i hi
  | succ d ih =>
    intro i hi
    have q := ih i (by omega)
    have q2 := h (i + 1 + d) (by omega)
    exact lessB_trans q q2

/-- What a right party tells: people from 0 to 12, right pairs, in order. -/
theorem party_right {n : Int} {l : List Pr} (h : party n l = true) : ∃ m : Nat, n = (m : Int) ∧ m ≤ 12 ∧ Right m l ∧ (∀ i j, (hj : j < l.length) → (hij : i < j) → lessB l[i] l[j] = true) := by
  obtain ⟨h1, h2, h3, h4⟩ := party_of h
  refine ⟨n.toNat, by omega, by omega, fun x hx => ?_, fun i j hj hij => ?_⟩
  · obtain ⟨i, hi, rfl⟩ := List.getElem_of_mem hx
    have := h3 i hi
    omega
  · have := sorted_lt h4 (j - i - 1) i (by omega)
    have e : i + 1 + (j - i - 1) = j := by omega
    simpa only [e] using this

/-! Sets of people as numbers. -/
def maskOf (f : Nat → Bool) : Nat → Nat
  | 0 => 0
  | n + 1 => maskOf f n + (if f n = true then 2 ^ n else 0)

theorem maskOf_lt (f : Nat → Bool) : ∀ n, maskOf f n < 2 ^ n
  | 0 => by simp [maskOf]
  | n + 1 => by
    have := maskOf_lt f n
    unfold maskOf
    rw [Nat.pow_succ]
    split <;> omega

theorem maskOf_bit (f : Nat → Bool) : ∀ n b, (maskOf f n).testBit b = (decide (b < n) && f b)
  | 0, b => by simp [maskOf]
  | n + 1, b => by
    have ih := maskOf_bit f n b
    have hlt := maskOf_lt f n
    unfold maskOf
    by_cases h : f n = true
    · rw [if_pos h, Nat.add_comm]
      rcases Nat.lt_trichotomy b n with hb | rfl | hb
      · rw [Nat.testBit_two_pow_add_gt hb, ih]
        simp [hb, Nat.lt_succ_of_lt hb]
      · rw [Nat.testBit_two_pow_add_eq, Nat.testBit_lt_two_pow hlt]
        simp [h]
      · have h1 : 2 ^ (n + 1) ≤ 2 ^ b := Nat.pow_le_pow_right (by omega) (by omega)
        rw [Nat.pow_succ] at h1
        rw [Nat.testBit_lt_two_pow (by omega)]
        simp; omega
    · rw [if_neg h, Nat.add_zero, ih]
      by_cases e : b = n
      · subst e
        simp [Bool.eq_false_iff.mpr h]
      · have : decide (b < n + 1) = decide (b < n) := by
          apply decide_eq_decide.mpr; omega
        rw [this]

theorem maskOf_congr {f g : Nat → Bool} : ∀ {n}, (∀ b, b < n → f b = g b) → maskOf f n = maskOf g n
  | 0, _ => rfl
  | n + 1, h => by
    unfold maskOf
    rw [maskOf_congr (n := n) (fun b hb => h b (by omega)), h n (by omega)]

theorem mask_or (f g : Nat → Bool) (n : Nat) : maskOf f n ||| maskOf g n = maskOf (fun b => f b || g b) n := by
  apply Nat.eq_of_testBit_eq
  intro b
  rw [Nat.testBit_or, maskOf_bit, maskOf_bit, maskOf_bit]
  cases decide (b < n) <;> simp
theorem mask_one {n b : Nat} (h : b < n) : (2 ^ b : Nat) = maskOf (fun c => decide (c = b)) n := by
  apply Nat.eq_of_testBit_eq
  intro c
  rw [Nat.testBit_two_pow, maskOf_bit]
  by_cases e : b = c
  · subst e; simp [h]
  · have : ¬ (c = b) := fun q => e q.symm
    simp [e, this]

/-! How many hold. -/
def cnt (f : Nat → Bool) (n : Nat) : Nat := (List.range n).countP f
theorem cnt_succ (f : Nat → Bool) (n : Nat) : cnt f (n + 1) = cnt f n + (if f n = true then 1 else 0) := by
  unfold cnt
  rw [List.range_succ, List.countP_append]
  simp [List.countP_cons]
theorem cnt_le (f : Nat → Bool) (n : Nat) : cnt f n ≤ n := by
  unfold cnt
  have := List.countP_le_length (p := f) (l := List.range n)
  simpa using this
theorem cnt_congr {f g : Nat → Bool} {n : Nat} (h : ∀ b, b < n → f b = g b) : cnt f n = cnt g n := by
  unfold cnt
  apply List.countP_congr
  intro x hx
  rw [h x (by simpa using hx)]
theorem cnt_one {f : Nat → Bool} {g : Nat → Bool} {a : Nat} : ∀ {n}, a < n → f a = false → (∀ b, b < n → g b = (f b || decide (b = a))) → cnt g n = cnt f n + 1
  | 0, h, _, _ => by omega
  | n + 1, h, hf, hg => by
    rw [cnt_succ, cnt_succ]
    by_cases e : a = n
    · subst e
      have h1 : cnt g a = cnt f a := cnt_congr (fun b hb => by rw [hg b (by omega)]; simp [show ¬ b = a by omega])
      have h2 := hg a (by omega)
      rw [h1, h2, hf]
      simp
    · have h1 := cnt_one (f := f) (g := g) (n := n) (by omega) hf (fun b hb => hg b (by omega))
      have h2 := hg n (by omega)
      rw [h1, h2]
      have : decide (n = a) = false := by simp; omega
      rw [this, Bool.or_false]
      omega
end Go.Proofs.YtdkmkcgghhncdaaDoor.Plain

/- The program's table of a party: for each person its friends, as the bits of a number. No condition but lengths that fit. -/
namespace Go.Proofs.YtdkmkcgghhncdaaDoor.Plain
open Go.RowKit Go.Proofs.YtdkmkcgghhncdaaDoorW.PrintWords Go.Proofs.YtdkmkcgghhncdaaDoorW.PrintLast
set_option linter.unusedVariables false
open Q

theorem wraps_u16 (n : Int) (h₀ : 0 ≤ n) (h₁ : n < 2 ^ 16) : IntKind.u16.wrap n = n := by
  have : IntKind.u16.wrap n = n % 65536 := by simp [IntKind.wrap, IntKind.bits, IntKind.signed]
  rw [this]; omega
theorem or16 {a b : Nat} (ha : a < 2 ^ 16) (hb : b < 2 ^ 16) : Go.bits .or .u16 (a : Int) (b : Int) = ((a ||| b : Nat) : Int) := (bits_nat .u16 16 (by decide) wraps_u16 a b ha hb).2
theorem and16 {a b : Nat} (ha : a < 2 ^ 16) (hb : b < 2 ^ 16) : Go.bits .and .u16 (a : Int) (b : Int) = ((a &&& b : Nat) : Int) := (bits_nat .u16 16 (by decide) wraps_u16 a b ha hb).1
theorem shl16 {b : Nat} (hb : b < 16) : shl .u16 1 (b : Int) = ((2 ^ b : Nat) : Int) := by
  unfold shl
  have h1 : min ((b : Int)).toNat IntKind.u16.bits = b := by
    rw [Int.toNat_natCast]
    exact Nat.min_eq_left (by show b ≤ 16; omega)
  rw [h1, Int.one_mul, wraps_u16]
  · simp
  · exact Int.pow_nonneg (by decide)
  · have : (2 : Nat) ^ b < 2 ^ 16 := Nat.pow_lt_pow_right (by omega) hb
    exact_mod_cast this

/-- The table of a relation of n people. -/
def tabF (n : Nat) (f : Nat → Nat → Bool) : List Int := (List.range n).map fun a => ((maskOf (f a) n : Nat) : Int)
theorem tabF_length (n : Nat) (f : Nat → Nat → Bool) : (tabF n f).length = n := by simp [tabF]
theorem tabF_get {n : Nat} {f : Nat → Nat → Bool} {a : Nat} (h : a < n) : rd (tabF n f) (a : Int) = ((maskOf (f a) n : Nat) : Int) := by
  rw [rd_at (by rw [tabF_length]; exact h)]
  simp [tabF]
theorem tabF_congr {n : Nat} {f g : Nat → Nat → Bool} (h : ∀ a b, a < n → b < n → f a b = g a b) : tabF n f = tabF n g := by
  unfold tabF
  apply List.map_congr_left
  intro a ha
  rw [maskOf_congr (fun b hb => h a b (by simpa using ha) hb)]
theorem mask16 {f : Nat → Bool} {n : Nat} (h : n ≤ 16) : maskOf f n < 2 ^ 16 := Nat.lt_of_lt_of_le (maskOf_lt f n) (Nat.pow_le_pow_right (by omega) h)

/-- The relation with two people made friends. -/
def withP (f : Nat → Nat → Bool) (a b : Nat) : Nat → Nat → Bool := fun c d => f c d || ((decide (c = a) && decide (d = b)) || (decide (c = b) && decide (d = a)))

/-- One pair put into the table, as both the loop and 'put' do it. -/
theorem tab_put {n : Nat} (hn : n ≤ 16) (f : Nat → Nat → Bool) {a b : Nat} (ha : a < n) (hb : b < n) (hab : a ≠ b) :
    ((tabF n f).set a (Go.bits .or .u16 (rd (tabF n f) (a : Int)) (shl .u16 1 (b : Int)))).set b
      (Go.bits .or .u16 (rd ((tabF n f).set a (Go.bits .or .u16 (rd (tabF n f) (a : Int)) (shl .u16 1 (b : Int)))) (b : Int)) (shl .u16 1 (a : Int))) = tabF n (withP f a b) := by
  have e1 : Go.bits .or .u16 (rd (tabF n f) (a : Int)) (shl .u16 1 (b : Int)) = ((maskOf (withP f a b a) n : Nat) : Int) := by
    rw [tabF_get ha, shl16 (by omega), or16 (mask16 hn) (Nat.pow_lt_pow_right (by omega) (by omega)), mask_one hb, mask_or]
    congr 1
    apply maskOf_congr
    intro c _
    unfold withP
    simp [hab]
  have e2 : rd ((tabF n f).set a (Go.bits .or .u16 (rd (tabF n f) (a : Int)) (shl .u16 1 (b : Int)))) (b : Int) = ((maskOf (f b) n : Nat) : Int) := by
    rw [rd_at (by rw [List.length_set, tabF_length]; exact hb), List.getElem_set_ne hab]
    simp [tabF]
  have e3 : Go.bits .or .u16 ((maskOf (f b) n : Nat) : Int) (shl .u16 1 (a : Int)) = ((maskOf (withP f a b b) n : Nat) : Int) := by
    rw [shl16 (by omega), or16 (mask16 hn) (Nat.pow_lt_pow_right (by omega) (by omega)), mask_one ha, mask_or]
    congr 1
    apply maskOf_congr
    intro c _
    unfold withP
    simp [show ¬ (b = a) from fun q => hab q.symm]
  rw [e2, e3, e1]
  apply List.ext_getElem
  · simp [tabF_length]
  · intro i h1 h2
    rw [tabF_length] at h2
    rw [List.getElem_set, List.getElem_set]
    by_cases i1 : b = i
    · subst i1
      rw [if_pos rfl]
      simp [tabF]
    · rw [if_neg i1]
      by_cases i2 : a = i
      · subst i2
        rw [if_pos rfl]
        simp [tabF]
      · rw [if_neg i2]
        simp only [tabF, List.getElem_map, List.getElem_range]
        congr 1
        apply maskOf_congr
        intro c _
        unfold withP
        simp [show ¬ (i = a) from fun q => i2 q.symm, show ¬ (i = b) from fun q => i1 q.symm]

theorem table_ev {n : Nat} {l : List Pr} (hn : n ≤ 12) (hr : Right n l) (h : l.length ≤ 9223372036854775807) : Ev (fun k => impl_Party_table.f k (n : Int) l) (tabF n (adj l)) := by
  refine Ev.congr (f := fun k => impl_Party_table.l0 k (List.replicate n 0) l (l.length : Int) 0) (fun k => ?_) ?_
  · unfold impl_Party_table.f
    rw [if_pos (by omega), if_pos (by omega), Int.toNat_natCast]
  · have q := ev_up (n := l.length) (loop := fun k i => impl_Party_table.l0 k (tabF n (adj (l.take i))) l (l.length : Int) (i : Int)) (r := fun _ => tabF n (adj l))
      (Ev.step (f := fun _ => some (tabF n (adj l))) (fun k => by simp [impl_Party_table.l0]) (Ev.now _))
      (fun i hi ih => by
        have r := hr _ (List.getElem_mem hi)
        have ea : ((l[i].f0.toNat : Nat) : Int) = l[i].f0 := by omega
        have eb : ((l[i].f1.toNat : Nat) : Int) = l[i].f1 := by omega
        have hput := tab_put (n := n) (by omega) (adj (l.take i)) (a := l[i].f0.toNat) (b := l[i].f1.toNat) (by omega) (by omega) (by omega)
        rw [ea, eb] at hput
        have hnext : tabF n (withP (adj (l.take i)) l[i].f0.toNat l[i].f1.toNat) = tabF n (adj (l.take (i + 1))) := by
          apply tabF_congr
          intro c d _ _
          rw [List.take_succ_eq_append_getElem hi, adj_snoc]
          unfold withP
          congr 1
          have k1 : decide (c = l[i].f0.toNat) = decide (l[i].f0 = (c : Int)) := by apply decide_eq_decide.mpr; omega
          have k2 : decide (d = l[i].f1.toNat) = decide (l[i].f1 = (d : Int)) := by apply decide_eq_decide.mpr; omega
          have k3 : decide (c = l[i].f1.toNat) = decide (l[i].f1 = (c : Int)) := by apply decide_eq_decide.mpr; omega
          have k4 : decide (d = l[i].f0.toNat) = decide (l[i].f0 = (d : Int)) := by apply decide_eq_decide.mpr; omega
          rw [k1, k2, k3, k4, Bool.and_comm (decide (l[i].f1 = (c : Int)))]
        rw [hnext] at hput
        refine Ev.step (f := fun k => impl_Party_table.l0 k (tabF n (adj (l.take (i + 1)))) l (l.length : Int) ((i + 1 : Nat) : Int)) (fun k => ?_) ih
        simp only [impl_Party_table.l0]
        rw [if_pos (by omega), if_pos (by omega), if_pos (by omega), rdP_at hi, if_pos (by omega), if_pos (by rw [tabF_length]; omega), if_pos (by omega), Option.bind_some, if_pos (by rw [tabF_length]; omega), hput, succ_cast hi h]) 0 (Nat.zero_le _)
    have e : tabF n (adj (l.take 0)) = List.replicate n 0 := by
      have hz : ∀ m, maskOf (fun _ => false) m = 0 := by
        intro m
        induction m with
        | zero => rfl
        | succ m ih => unfold maskOf; rw [ih]; simp
      have : tabF n (fun _ _ => false) = List.replicate n 0 := by
        unfold tabF
        rw [List.eq_replicate_iff]
        refine ⟨by simp, fun b hb => ?_⟩
        obtain ⟨a, _, rfl⟩ := List.mem_map.1 hb
        rw [hz]; rfl
      rw [← this]
      apply tabF_congr
      intro a b _ _
      rw [List.take_zero, adj_nil]
    rw [e] at q
    exact q
end Go.Proofs.YtdkmkcgghhncdaaDoor.Plain

/- The reference's table of a party: for each person, of each person, whether they are friends. No condition but lengths that fit. -/
namespace Go.Proofs.YtdkmkcgghhncdaaDoor.Plain
open Go.RowKit Go.Proofs.YtdkmkcgghhncdaaDoorW.PrintWords Go.Proofs.YtdkmkcgghhncdaaDoorW.PrintLast
set_option linter.unusedVariables false
open Q

theorem rdB_at {l : List (List Bool)} {i : Nat} (h : i < l.length) : rd_L4 l (i : Int) = l[i] := by
  simp [rd_L4, List.getD, h]
theorem rdOfB_at {l : List Bool} {i : Nat} (h : i < l.length) : rdOf false l (i : Int) = l[i] := by
  simp [rdOf, List.getD, h]

/-- The table of a relation of n people, as bools. -/
def rowB (n : Nat) (f : Nat → Bool) : List Bool := (List.range n).map f
def tabB (n : Nat) (f : Nat → Nat → Bool) : List (List Bool) := (List.range n).map fun a => rowB n (f a)
theorem rowB_length (n : Nat) (f : Nat → Bool) : (rowB n f).length = n := by simp [rowB]
theorem rowB_get {n : Nat} {f : Nat → Bool} {a : Nat} (h : a < (rowB n f).length) : (rowB n f)[a] = f a := by simp [rowB]
theorem tabB_length (n : Nat) (f : Nat → Nat → Bool) : (tabB n f).length = n := by simp [tabB]
theorem tabB_getElem {n : Nat} {f : Nat → Nat → Bool} {a : Nat} (h : a < (tabB n f).length) : (tabB n f)[a] = rowB n (f a) := by simp [tabB]
theorem tabB_get {n : Nat} {f : Nat → Nat → Bool} {a : Nat} (h : a < n) : rd_L4 (tabB n f) (a : Int) = rowB n (f a) := by
  rw [rdB_at (by rw [tabB_length]; exact h), tabB_getElem]
theorem rowB_congr {n : Nat} {f g : Nat → Bool} (h : ∀ b, b < n → f b = g b) : rowB n f = rowB n g := by
  unfold rowB
  apply List.map_congr_left
  intro b hb
  exact h b (by simpa using hb)
theorem tabB_congr {n : Nat} {f g : Nat → Nat → Bool} (h : ∀ a b, a < n → b < n → f a b = g a b) : tabB n f = tabB n g := by
  unfold tabB
  apply List.map_congr_left
  intro a ha
  exact rowB_congr (fun b hb => h a b (by simpa using ha) hb)
theorem rowB_set {n : Nat} {f : Nat → Bool} {b : Nat} (v : Bool) : (rowB n f).set b v = rowB n (fun c => if c = b then v else f c) := by
  apply List.ext_getElem
  · simp [rowB_length]
  · intro i h1 h2
    rw [List.getElem_set, rowB_get]
    by_cases e : b = i
    · subst e; rw [if_pos rfl, rowB_get, if_pos rfl]
    · rw [if_neg e, rowB_get, if_neg (fun q => e q.symm)]

/-- Two cells set, the one of both people's. -/
def setP (f : Nat → Nat → Bool) (a b : Nat) (v : Bool) : Nat → Nat → Bool := fun c d => if (c = a ∧ d = b) ∨ (c = b ∧ d = a) then v else f c d

theorem tabB_put {n : Nat} (f : Nat → Nat → Bool) {a b : Nat} (ha : a < n) (hb : b < n) (hab : a ≠ b) (v : Bool) :
    ((tabB n f).set a ((rd_L4 (tabB n f) (a : Int)).set b v)).set b ((rd_L4 ((tabB n f).set a ((rd_L4 (tabB n f) (a : Int)).set b v)) (b : Int)).set a v) = tabB n (setP f a b v) := by
  have e2 : rd_L4 ((tabB n f).set a ((rd_L4 (tabB n f) (a : Int)).set b v)) (b : Int) = rowB n (f b) := by
    rw [rdB_at (by rw [List.length_set, tabB_length]; exact hb), List.getElem_set_ne hab, tabB_getElem]
  rw [e2, tabB_get ha, rowB_set, rowB_set]
  apply List.ext_getElem
  · simp [tabB_length]
  · intro i h1 h2
    rw [tabB_length] at h2
    rw [List.getElem_set, List.getElem_set]
    by_cases i1 : b = i
    · subst i1
      rw [if_pos rfl, tabB_getElem]
      apply rowB_congr
      intro c _
      unfold setP
      simp [show ¬ (b = a) from fun q => hab q.symm]
    · rw [if_neg i1]
      by_cases i2 : a = i
      · subst i2
        rw [if_pos rfl, tabB_getElem]
        apply rowB_congr
        intro c _
        unfold setP
        simp [hab]
      · rw [if_neg i2, tabB_getElem, tabB_getElem]
        apply rowB_congr
        intro c _
        unfold setP
        simp [show ¬ (i = a) from fun q => i2 q.symm, show ¬ (i = b) from fun q => i1 q.symm]

theorem setP_true (f : Nat → Nat → Bool) (a b c d : Nat) : setP f a b true c d = withP f a b c d := by
  unfold setP withP
  by_cases h : (c = a ∧ d = b) ∨ (c = b ∧ d = a)
  · rw [if_pos h]
    rcases h with ⟨rfl, rfl⟩ | ⟨rfl, rfl⟩ <;> simp
  · rw [if_neg h]
    have : ((decide (c = a) && decide (d = b)) || (decide (c = b) && decide (d = a))) = false := by
      rw [Bool.eq_false_iff]
      intro q
      exact h (by simpa using q)
    rw [this, Bool.or_false]

theorem adj_next {n : Nat} {l : List Pr} (hr : Right n l) {i : Nat} (hi : i < l.length) (c d : Nat) : withP (adj (l.take i)) l[i].f0.toNat l[i].f1.toNat c d = adj (l.take (i + 1)) c d := by
  have r := hr _ (List.getElem_mem hi)
  rw [List.take_succ_eq_append_getElem hi, adj_snoc]
  unfold withP
  congr 1
  have k1 : decide (c = l[i].f0.toNat) = decide (l[i].f0 = (c : Int)) := by apply decide_eq_decide.mpr; omega
  have k2 : decide (d = l[i].f1.toNat) = decide (l[i].f1 = (d : Int)) := by apply decide_eq_decide.mpr; omega
  have k3 : decide (c = l[i].f1.toNat) = decide (l[i].f1 = (c : Int)) := by apply decide_eq_decide.mpr; omega
  have k4 : decide (d = l[i].f0.toNat) = decide (l[i].f0 = (d : Int)) := by apply decide_eq_decide.mpr; omega
  rw [k1, k2, k3, k4, Bool.and_comm (decide (l[i].f1 = (c : Int)))]

theorem paTable_ev {n : Nat} {l : List Pr} (hn : n ≤ 12) (hr : Right n l) (h : l.length ≤ 9223372036854775807) : Ev (fun k => spec_paTable.f k (n : Int) l) (tabB n (adj l)) := by
  have q1 := ev_up (n := l.length) (loop := fun k i => spec_paTable.l1 k (tabB n (adj (l.take i))) l (l.length : Int) (i : Int)) (r := fun _ => tabB n (adj l))
    (Ev.step (f := fun _ => some (tabB n (adj l))) (fun k => by simp [spec_paTable.l1]) (Ev.now _))
    (fun i hi ih => by
      have r := hr _ (List.getElem_mem hi)
      have ea : ((l[i].f0.toNat : Nat) : Int) = l[i].f0 := by omega
      have eb : ((l[i].f1.toNat : Nat) : Int) = l[i].f1 := by omega
      have hput := tabB_put (n := n) (adj (l.take i)) (a := l[i].f0.toNat) (b := l[i].f1.toNat) (by omega) (by omega) (by omega) true
      have hnext : tabB n (setP (adj (l.take i)) l[i].f0.toNat l[i].f1.toNat true) = tabB n (adj (l.take (i + 1))) :=
        tabB_congr (fun c d _ _ => by rw [setP_true, adj_next hr hi])
      rw [hnext] at hput
      have la : (rd_L4 (tabB n (adj (l.take i))) l[i].f0).length = n := by
        rw [← ea, tabB_get (by omega), rowB_length]
      have lb : (rd_L4 ((tabB n (adj (l.take i))).set l[i].f0.toNat ((rd_L4 (tabB n (adj (l.take i))) l[i].f0).set l[i].f1.toNat true)) l[i].f1).length = n := by
        rw [← eb, rdB_at (by rw [List.length_set, tabB_length]; omega), List.getElem_set_ne (by omega), tabB_getElem, rowB_length]
      rw [ea, eb] at hput
      refine Ev.step (f := fun k => spec_paTable.l1 k (tabB n (adj (l.take (i + 1)))) l (l.length : Int) ((i + 1 : Nat) : Int)) (fun k => ?_) ih
      simp only [spec_paTable.l1]
      rw [if_pos (by omega), if_pos (by omega), if_pos (by omega), rdP_at hi, if_pos (by omega), if_pos (by rw [tabB_length]; omega), if_pos (by omega), if_pos (by rw [la]; omega), Option.bind_some, if_pos (by rw [tabB_length]; omega), if_pos (by rw [lb]; omega), hput, succ_cast hi h]) 0 (Nat.zero_le _)
  have e0 : tabB n (adj (l.take 0)) = List.replicate n (List.replicate n false) := by
    unfold tabB
    rw [List.eq_replicate_iff]
    refine ⟨by simp, fun b hb => ?_⟩
    obtain ⟨a, _, rfl⟩ := List.mem_map.1 hb
    unfold rowB
    rw [List.eq_replicate_iff]
    refine ⟨by simp, fun c hc => ?_⟩
    obtain ⟨d, _, rfl⟩ := List.mem_map.1 hc
    rw [List.take_zero, adj_nil]
  rw [e0] at q1
  have q0 := ev_up (n := n) (loop := fun k i => spec_paTable.l0 k (List.replicate i (List.replicate n false)) (i : Int) (n : Int) l) (r := fun _ => tabB n (adj l))
    (Ev.step (f := fun k => spec_paTable.l1 k (List.replicate n (List.replicate n false)) l (l.length : Int) 0) (fun k => by
      simp only [spec_paTable.l0]
      rw [if_neg (by omega)]) q1)
    (fun i hi ih => by
      refine Ev.step (f := fun k => spec_paTable.l0 k (List.replicate (i + 1) (List.replicate n false)) ((i + 1 : Nat) : Int) (n : Int) l) (fun k => ?_) ih
      simp only [spec_paTable.l0]
      rw [if_pos (by omega), if_pos (by omega), if_pos (by omega), if_pos (by simp; omega), Int.toNat_natCast, succ_cast hi (by omega), ← List.replicate_succ']) 0 (Nat.zero_le _)
  exact q0
end Go.Proofs.YtdkmkcgghhncdaaDoor.Plain

/- The reference's test of a party. No condition but a length that fits. -/
namespace Go.Proofs.YtdkmkcgghhncdaaDoor.Plain
open Go.RowKit Go.Proofs.YtdkmkcgghhncdaaDoorW.PrintWords Go.Proofs.YtdkmkcgghhncdaaDoorW.PrintLast
set_option linter.unusedVariables false
open Q

/-- All pairs of n people. -/
def pairsOf (n : Nat) : List (Nat × Nat) := (List.range n).flatMap fun a => ((List.range n).filter fun b => decide (a < b)).map fun b => (a, b)

theorem pairsOf_length : ∀ n : Fin 13, (((pairsOf n.val).length : Nat) : Int) = (n.val : Int) * ((n.val : Int) - 1) / 2 := by decide +kernel

theorem mem_pairsOf {n a b : Nat} (h : a < b) (hb : b < n) : (a, b) ∈ pairsOf n := by
  unfold pairsOf
  rw [List.mem_flatMap]
  exact ⟨a, List.mem_range.mpr (by omega), List.mem_map.mpr ⟨b, List.mem_filter.mpr ⟨List.mem_range.mpr hb, by simpa using h⟩, rfl⟩⟩

/-- There are no more pairs in a party than pairs of its people. -/
theorem party_len {n : Nat} {l : List Pr} (hn : n ≤ 12) (hr : Right n l) (hs : ∀ i j, (hj : j < l.length) → (hij : i < j) → lessB l[i] l[j] = true) : (l.length : Int) ≤ (n : Int) * ((n : Int) - 1) / 2 := by
  have hnd : (l.map fun x => (x.f0.toNat, x.f1.toNat)).Nodup := by
    rw [List.nodup_iff_pairwise_ne, List.pairwise_iff_getElem]
    intro i j hi hj hij e
    simp only [List.length_map] at hi hj
    simp only [List.getElem_map, Prod.mk.injEq] at e
    have s := hs i j hj hij
    have r1 := hr _ (List.getElem_mem hi)
    have r2 := hr _ (List.getElem_mem hj)
    unfold lessB at s
    simp only [Bool.or_eq_true, Bool.and_eq_true, decide_eq_true_eq] at s
    omega
  have hsub : (l.map fun x => (x.f0.toNat, x.f1.toNat)) ⊆ pairsOf n := by
    intro p hp
    obtain ⟨x, hx, rfl⟩ := List.mem_map.1 hp
    have := hr x hx
    exact mem_pairsOf (by omega) (by omega)
  have h1 := List.Nodup.length_le_of_subset hnd hsub
  rw [List.length_map] at h1
  have h2 := pairsOf_length ⟨n, by omega⟩
  simp only [] at h2
  omega

theorem bound_eq {n : Int} (h0 : 0 ≤ n) (h1 : n ≤ 12) : wrap64 (Int.tdiv (wrap64 (n * (wrap64 (n - 1)))) 2) = n * (n - 1) / 2 := by
  have : n = 0 ∨ n = 1 ∨ n = 2 ∨ n = 3 ∨ n = 4 ∨ n = 5 ∨ n = 6 ∨ n = 7 ∨ n = 8 ∨ n = 9 ∨ n = 10 ∨ n = 11 ∨ n = 12 := by omega
  rcases this with rfl | rfl | rfl | rfl | rfl | rfl | rfl | rfl | rfl | rfl | rfl | rfl | rfl <;> decide +kernel

theorem paPeople_eq (n : Int) : spec_paPeople.f n = some (decide (0 ≤ n) && decide (n ≤ 12)) := by
  unfold spec_paPeople.f
  rw [l1In_eq]; rfl

theorem paGood_l0 (n : Int) (l : List Pr) (h0 : 0 ≤ n) (h1 : n ≤ 12) (h : l.length ≤ 9223372036854775807) : Ev (fun k => spec_paGood.l0 k l (l.length : Int) 0 n l) ((List.range l.length).all (okAt n l)) := by
  have q := ev_up (n := l.length) (loop := fun k i => spec_paGood.l0 k l (l.length : Int) (i : Int) n l) (r := fun i => ((List.range l.length).drop i).all (okAt n l))
    (Ev.step (f := fun _ => some true) (fun k => by simp only [spec_paGood.l0]; rw [if_neg (by omega)]) (by rw [all_end _ (Nat.le_refl _)]; exact Ev.now _))
    (fun i hi ih => by
      rw [all_step (okAt n l) hi]
      have e0 : okAt n l i = (pairOk n l[i] && (decide (i = 0) || lessB (rdP l ((i : Int) - 1)) l[i])) := by
        unfold okAt rdP; rw [rdP_at hi]
      have wn : wrap64 (n - 1) = n - 1 := wrap_id (by omega) (by omega)
      by_cases a1 : 0 ≤ l[i].f0 ∧ l[i].f0 ≤ n - 1
      · have w1 : wrap64 (l[i].f0 + 1) = l[i].f0 + 1 := wrap_id (by omega) (by omega)
        have b1 : (decide (0 ≤ l[i].f0) && decide (l[i].f0 ≤ n - 1)) = true := by simpa using a1
        by_cases a2 : l[i].f0 + 1 ≤ l[i].f1 ∧ l[i].f1 ≤ n - 1
        · have b2 : (decide (l[i].f0 + 1 ≤ l[i].f1) && decide (l[i].f1 ≤ n - 1)) = true := by simpa using a2
          have ep : pairOk n l[i] = true := by simp [pairOk]; omega
          by_cases a4 : i = 0
          · have e : okAt n l i = true := by rw [e0, ep, decide_eq_true a4]; simp
            rw [e]
            refine Ev.step (f := fun k => spec_paGood.l0 k l (l.length : Int) ((i + 1 : Nat) : Int) n l) (fun k => ?_) (by simpa using ih)
            simp only [spec_paGood.l0]
            rw [if_pos (by omega), if_pos (by omega), if_pos (by omega), rdP_at hi, wn, l1In_eq, b1, Option.bind_some, if_pos rfl, w1, l1In_eq, b2, Option.bind_some, if_pos rfl, if_neg (by omega), succ_cast hi h]
          · have ew : wrap64 ((i : Int) - 1) = ((i - 1 : Nat) : Int) := pred_cast (by omega) (by omega)
            have ew2 : ((i : Int) - 1) = ((i - 1 : Nat) : Int) := by omega
            have e : okAt n l i = lessB l[i-1] l[i] := by
              rw [e0, ep, decide_eq_false a4, ew2]
              unfold rdP
              rw [rdP_at (by omega)]; simp
            rw [e]
            refine Ev.step (f := fun k => if lessB l[i-1] l[i] = true then spec_paGood.l0 k l (l.length : Int) ((i + 1 : Nat) : Int) n l else some false) (fun k => ?_) ?_
            · simp only [spec_paGood.l0]
              rw [if_pos (by omega), if_pos (by omega), if_pos (by omega), rdP_at hi, wn, l1In_eq, b1, Option.bind_some, if_pos rfl, w1, l1In_eq, b2, Option.bind_some, if_pos rfl, if_pos (by omega), ew, if_pos (by omega), if_pos (by omega), rdP_at (by omega : i - 1 < l.length), paLess_eq, Option.bind_some, succ_cast hi h]
            · cases hb : lessB l[i-1] l[i] with
              | true => exact ev_if (fun _ => by simpa using ih) (fun h => absurd rfl h)
              | false => exact ev_some (fun _ => by simp)
        · have b2 : (decide (l[i].f0 + 1 ≤ l[i].f1) && decide (l[i].f1 ≤ n - 1)) = false := by
            rw [Bool.eq_false_iff]; intro q; exact a2 (by simpa using q)
          have e : okAt n l i = false := by rw [e0]; simp [pairOk]; omega
          rw [e]
          refine Ev.step (f := fun _ => some false) (fun k => ?_) (by simpa using Ev.now false)
          simp only [spec_paGood.l0]
          rw [if_pos (by omega), if_pos (by omega), if_pos (by omega), rdP_at hi, wn, l1In_eq, b1, Option.bind_some, if_pos rfl, w1, l1In_eq, b2, Option.bind_some, if_neg (by simp)]
      · have b1 : (decide (0 ≤ l[i].f0) && decide (l[i].f0 ≤ n - 1)) = false := by
          rw [Bool.eq_false_iff]; intro q; exact a1 (by simpa using q)
        have e : okAt n l i = false := by rw [e0]; simp [pairOk]; omega
        rw [e]
        refine Ev.step (f := fun _ => some false) (fun k => ?_) (by simpa using Ev.now false)
        simp only [spec_paGood.l0]
        rw [if_pos (by omega), if_pos (by omega), if_pos (by omega), rdP_at hi, wn, l1In_eq, b1, Option.bind_some, if_neg (by simp)]) 0 (Nat.zero_le _)
  simpa using q

theorem paGood_ev (n : Int) (l : List Pr) (h : l.length ≤ 9223372036854775807) : Ev (fun k => spec_paGood.f k n l) (party n l) := by
  unfold spec_paGood.f
  refine ev_bind0 (paPeople_eq n) ?_
  cases hb : (decide (0 ≤ n) && decide (n ≤ 12)) with
  | false =>
    have e : party n l = false := by unfold party; rw [hb]; rfl
    rw [e]
    refine ev_if (fun h => by simp at h) (fun _ => ?_)
    exact Ev.step (f := fun _ => some false) (fun k => by simp [spec_paGood.j0]) (Ev.now _)
  | true =>
    have hn : 0 ≤ n ∧ n ≤ 12 := by simpa using hb
    have e : party n l = (List.range l.length).all (okAt n l) := by unfold party; rw [hb]; rfl
    refine ev_if (fun _ => ?_) (fun h => absurd rfl h)
    rw [bound_eq hn.1 hn.2]
    by_cases c : (l.length : Int) > n * (n - 1) / 2
    · refine Ev.step (f := fun _ => some false) (fun k => ?_) ?_
      · simp only [spec_paGood.j0]
        rw [if_pos (decide_eq_true c)]
      · cases hp : party n l with
        | false => exact Ev.now _
        | true =>
          exfalso
          obtain ⟨m, rfl, h12, hr, hs⟩ := party_right hp
          have := party_len h12 hr hs
          omega
    · rw [e]
      refine Ev.step (f := fun k => spec_paGood.l0 k l (l.length : Int) 0 n l) (fun k => ?_) (paGood_l0 n l hn.1 hn.2 h)
      simp only [spec_paGood.j0]
      rw [if_neg (by simpa using c)]
end Go.Proofs.YtdkmkcgghhncdaaDoor.Plain

/- The party of a table, on both sides. No condition but that there are at most twelve people. -/
namespace Go.Proofs.YtdkmkcgghhncdaaDoor.Plain
open Go.RowKit Go.Proofs.YtdkmkcgghhncdaaDoorW.PrintWords Go.Proofs.YtdkmkcgghhncdaaDoorW.PrintLast
set_option linter.unusedVariables false
open Q

theorem has_eq {n : Nat} (hn : n ≤ 12) (f : Nat → Nat → Bool) {a b : Nat} (ha : a < n) (hb : b < n) : impl_table_has.f (tabF n f) (a : Int) (b : Int) = some (f a b) := by
  unfold impl_table_has.f
  rw [if_pos (by omega), if_pos (by rw [tabF_length]; omega), if_pos (by omega), tabF_get ha]
  have hm := mask16 (f := f a) (n := n) (by omega)
  have e1 : shr .u16 ((maskOf (f a) n : Nat) : Int) (b : Int) = ((maskOf (f a) n / 2 ^ b : Nat) : Int) := by
    unfold shr
    have h1 : min ((b : Int)).toNat IntKind.u16.bits = b := by
      rw [Int.toNat_natCast]
      exact Nat.min_eq_left (by show b ≤ 16; omega)
    rw [h1]
    simp
  have hlt : maskOf (f a) n / 2 ^ b < 2 ^ 16 := Nat.lt_of_le_of_lt (Nat.div_le_self _ _) hm
  have e2 : Go.bits .and .u16 ((maskOf (f a) n / 2 ^ b : Nat) : Int) 1 = (((maskOf (f a) n / 2 ^ b) % 2 : Nat) : Int) := by
    rw [show (1 : Int) = ((1 : Nat) : Int) by rfl, and16 hlt (by omega), Nat.and_one_is_mod]
  rw [e1, e2]
  have hb2 := maskOf_bit (f a) n b
  rw [Nat.testBit_eq_decide_div_mod_eq, decide_eq_true hb, Bool.true_and] at hb2
  congr 1
  rw [← hb2, Bool.eq_iff_iff, beq_iff_eq, decide_eq_true_eq]
  omega

end Go.Proofs.YtdkmkcgghhncdaaDoor.Plain

/- The law's own functions over parties, and the reference's test. No condition but lengths that fit. -/
namespace Go.Proofs.YtdkmkcgghhncdaaDoor.Plain
open Go.RowKit Go.Proofs.YtdkmkcgghhncdaaDoorW.PrintWords Go.Proofs.YtdkmkcgghhncdaaDoorW.PrintLast
set_option linter.unusedVariables false
open Q

abbrev Lp := S70
/-- A pair of the law's as a pair of the program's. -/
def toP (x : Lp) : Pr := ⟨x.f0, x.f1⟩

theorem szParty_eq (n : Int) (l : List Lp) (a : Int) (h0 : 0 ≤ a) (h1 : a ≤ 1048576) (h : l.length ≤ 9223372036854775807) : laws_szParty.f n l a = some (if a < (l.length : Int) then -1 else a - l.length) := by
  unfold laws_szParty.f laws_szPairS.f
  rw [wrap_id (by omega) (by omega)]
  by_cases hl : a < (l.length : Int)
  · rw [if_pos (by omega), Option.bind_some, if_pos (by omega), if_pos hl]
  · rw [if_neg (by omega), Option.bind_some, if_neg (by omega), if_neg hl]

theorem rdLp_at {l : List Lp} {i : Nat} (h : i < l.length) : rd_T70 l (i : Int) = l[i] := by
  simp [rd_T70, List.getD, h]

theorem copy_map {α β : Type} (z : β) (g : α → β) (l : List α) (i : Nat) (h : i < l.length) :
    ((l.map g).take i ++ List.replicate (l.length - i) z).set ((i : Int)).toNat (g l[i]) = (l.map g).take (i + 1) ++ List.replicate (l.length - (i + 1)) z := by
  have e : l.length - i = (l.length - (i + 1)) + 1 := by omega
  have hl : ((l.map g).take i).length = i := by simp; omega
  have hm : i < (l.map g).length := by simpa using h
  rw [Int.toNat_natCast, e, List.replicate_succ, List.set_append_right _ _ (by omega), hl, Nat.sub_self, List.set_cons_zero, List.take_succ_eq_append_getElem hm, List.append_assoc, List.getElem_map]
  rfl

theorem toPairS_ev (l : List Lp) (h : l.length ≤ 17592186044416) : Ev (fun k => laws_toPairS.f k l) (l.map toP) := by
  refine Ev.congr (f := fun k => laws_toPairS.l0 k l (List.replicate l.length z68) 0) (fun k => ?_) ?_
  · unfold laws_toPairS.f
    rw [if_pos (by omega), if_pos (by omega), Int.toNat_natCast]
  · have q := ev_up (n := l.length) (loop := fun k i => laws_toPairS.l0 k l ((l.map toP).take i ++ List.replicate (l.length - i) z68) (i : Int)) (r := fun _ => l.map toP)
      (Ev.step (f := fun _ => some (l.map toP)) (fun k => by
        simp only [laws_toPairS.l0]
        rw [if_neg (by omega), Nat.sub_self, List.replicate_zero, List.append_nil, List.take_of_length_le (by simp)]) (Ev.now _))
      (fun i hi ih => Ev.step (f := fun k => laws_toPairS.l0 k l ((l.map toP).take (i + 1) ++ List.replicate (l.length - (i + 1)) z68) ((i + 1 : Nat) : Int)) (fun k => by
        simp only [laws_toPairS.l0]
        rw [if_pos (by omega), if_pos (by omega), rdLp_at hi]
        show (if (i : Int) < _ then laws_toPairS.l0 k l (List.set _ _ (toP l[i])) _ else none) = _
        rw [if_pos (by simp; omega), copy_map _ toP l i hi, succ_cast hi (by omega)]) ih) 0 (Nat.zero_le _)
    simpa using q

theorem toParty_ev (n : Int) (l : List Lp) (h : l.length ≤ 17592186044416) : Ev (fun k => laws_toParty.f k n l) (n, l.map toP) := by
  unfold laws_toParty.f
  exact Ev.bind (f := fun _ t => some (n, t)) (toPairS_ev l h) (Ev.now _)

theorem eqPair_eq (x : Pr) : laws_eqPair.f x.f0 x.f1 x.f0 x.f1 = some true := by
  unfold laws_eqPair.f
  rw [if_pos rfl, if_pos rfl]

theorem eqPairS_ev (l : List Pr) (h : l.length ≤ 9223372036854775807) : Ev (fun k => laws_eqPairS.f k l l) true := by
  refine Ev.congr (f := fun k => laws_eqPairS.l0 k l l 0) (fun k => ?_) ?_
  · unfold laws_eqPairS.f
    rw [if_pos rfl]
  · exact ev_up (n := l.length) (loop := fun k i => laws_eqPairS.l0 k l l (i : Int)) (r := fun _ => true)
      (Ev.step (f := fun _ => some true) (fun k => by simp [laws_eqPairS.l0]) (Ev.now true))
      (fun i hi ih => Ev.step (f := fun k => laws_eqPairS.l0 k l l ((i + 1 : Nat) : Int)) (fun k => by
        simp only [laws_eqPairS.l0]
        rw [if_pos (by omega), if_pos (by omega), if_pos (by omega), rdP_at hi, eqPair_eq, Option.bind_some, if_pos rfl, succ_cast hi h]) ih) 0 (Nat.zero_le _)

theorem eqParty_ev (n : Int) (l : List Pr) (h : l.length ≤ 9223372036854775807) : Ev (fun k => laws_eqParty.f k n l n l) true := by
  refine Ev.congr (f := fun k => (laws_eqPairS.f k l l).bind fun t => if t = true then some true else some false) (fun k => ?_) ?_
  · unfold laws_eqParty.f
    rw [if_pos rfl]
  · exact Ev.bind (f := fun _ t => if t = true then some true else some false) (eqPairS_ev l h) (ev_some (fun _ => rfl))
end Go.Proofs.YtdkmkcgghhncdaaDoor.Plain

/- The places at which a test holds, as a list. No condition. -/
namespace Go.Proofs.YtdkmkcgghhncdaaDoor.Plain
open Go.RowKit Go.Proofs.YtdkmkcgghhncdaaDoorW.PrintWords Go.Proofs.YtdkmkcgghhncdaaDoorW.PrintLast
set_option linter.unusedVariables false
open Q

/-- The numbers less than n at which f holds, from i on. -/
def posFrom (f : Nat → Bool) (n i : Nat) : List Int := (((List.range n).drop i).filter f).map fun b : Nat => (b : Int)
def posL (f : Nat → Bool) (n : Nat) : List Int := posFrom f n 0
theorem posFrom_end (f : Nat → Bool) {n i : Nat} (h : n ≤ i) : posFrom f n i = [] := by
  unfold posFrom
  rw [List.drop_eq_nil_of_le (by simpa using h)]; rfl
theorem posFrom_step (f : Nat → Bool) {n i : Nat} (h : i < n) : posFrom f n i = (if f i = true then [(i : Int)] else []) ++ posFrom f n (i + 1) := by
  unfold posFrom
  rw [List.drop_eq_getElem_cons (by simpa using h), List.getElem_range, List.filter_cons]
  by_cases c : f i = true
  · rw [if_pos c, if_pos c]; rfl
  · rw [if_neg c, if_neg c]; rfl
end Go.Proofs.YtdkmkcgghhncdaaDoor.Plain

/- The numbers of the bits that are set. No condition. -/
-- over bits_TrailingZeros16.f
namespace Go.Proofs.YtdkmkcgghhncdaaDoor.Plain
open Go.RowKit Go.Proofs.YtdkmkcgghhncdaaDoorW.PrintWords Go.Proofs.YtdkmkcgghhncdaaDoorW.PrintLast
set_option linter.unusedVariables false
open Q

theorem tz_low : ∀ (k m i : Nat), i < k → m.testBit i = true → (∀ j, j < i → m.testBit j = false) → tz k m = i
  | 0, _, _, h, _, _ => by omega
  | k + 1, m, i, h, h1, h2 => by
    unfold tz
    cases i with
    | zero =>
      rw [Nat.testBit_zero, decide_eq_true_eq] at h1
      rw [if_pos h1]
    | succ i =>
      have h0 := h2 0 (by omega)
      rw [Nat.testBit_zero, decide_eq_false_iff_not] at h0
      rw [if_neg h0, tz_low k (m / 2) i (by omega) (by rw [← Nat.testBit_succ]; exact h1) (fun j hj => by rw [← Nat.testBit_succ]; exact h2 (j + 1) (by omega))]

theorem clear_low {m t q : Nat} (h : m = 2 ^ t * (2 * q + 1)) (j : Nat) : (m &&& (m - 1)).testBit j = (m.testBit j && decide (j ≠ t)) := by
  have hp : 0 < 2 ^ t := Nat.two_pow_pos t
  have hm : m - 1 = 2 ^ t * (2 * q) + (2 ^ t - 1) := by rw [h, Nat.mul_add, Nat.mul_one]; omega
  rw [Nat.testBit_and, hm, Nat.testBit_two_pow_mul_add _ (by omega : 2 ^ t - 1 < 2 ^ t), Nat.testBit_two_pow_sub_one, h, Nat.testBit_two_pow_mul]
  by_cases c1 : j < t
  · rw [if_pos c1, decide_eq_false (show ¬ j ≥ t by omega)]; simp
  · rw [if_neg c1]
    by_cases c2 : j = t
    · subst c2; simp
    · obtain ⟨d, rfl⟩ : ∃ d, j = t + 1 + d := ⟨j - t - 1, by omega⟩
      rw [show t + 1 + d - t = d + 1 by omega]
      have a1 : (2 * q + 1).testBit (d + 1) = q.testBit d := by rw [Nat.testBit_succ, show (2 * q + 1) / 2 = q by omega]
      have a2 : (2 * q).testBit (d + 1) = q.testBit d := by rw [Nat.testBit_succ, show 2 * q / 2 = q by omega]
      rw [a1, a2, decide_eq_true (show t + 1 + d ≠ t by omega)]
      cases q.testBit d <;> simp

def restF (f : Nat → Bool) (i : Nat) : Nat → Bool := fun b => decide (i ≤ b) && f b
theorem rest_no {f : Nat → Bool} {i : Nat} (h : f i = false) : restF f i = restF f (i + 1) := by
  funext b
  unfold restF
  by_cases c : b = i
  · subst c; rw [h]; simp
  · rw [show decide (i ≤ b) = decide (i + 1 ≤ b) from decide_eq_decide.2 (by omega)]
theorem rest_yes {f : Nat → Bool} {n i : Nat} (hi : i < n) (hn : n ≤ 16) (h : f i = true) : tz 16 (maskOf (restF f i) n) = i ∧ maskOf (restF f i) n &&& (maskOf (restF f i) n - 1) = maskOf (restF f (i + 1)) n ∧ 0 < maskOf (restF f i) n := by
  have hb : (maskOf (restF f i) n).testBit i = true := by rw [maskOf_bit]; simp [restF, hi, h]
  have hl : ∀ j, j < i → (maskOf (restF f i) n).testBit j = false := by
    intro j hj
    rw [maskOf_bit]; simp [restF, show ¬ i ≤ j by omega]
  have h0 : 0 < maskOf (restF f i) n := by
    rcases Nat.eq_zero_or_pos (maskOf (restF f i) n) with c | c
    · rw [c, Nat.zero_testBit] at hb; cases hb
    · exact c
  have ht := tz_low 16 _ i (by omega) hb hl
  obtain ⟨t, q, _, h2, h3⟩ := tz_bit 16 (maskOf (restF f i) n) h0 (mask16 hn)
  have e : t = i := by rw [← h2]; exact ht
  subst e
  refine ⟨ht, ?_, h0⟩
  apply Nat.eq_of_testBit_eq
  intro j
  rw [clear_low h3, maskOf_bit, maskOf_bit]
  unfold restF
  by_cases c : j = t
  · rw [c, decide_eq_false (show ¬ t + 1 ≤ t by omega), decide_eq_false (show ¬ t ≠ t by simp)]; simp
  · rw [show decide (t ≤ j) = decide (t + 1 ≤ j) from decide_eq_decide.2 (by omega), decide_eq_true c, Bool.and_true]
end Go.Proofs.YtdkmkcgghhncdaaDoor.Plain

/- The program's list of the set bits. Stands apart from WalkS, which says the same: import only one of the two. -/
namespace Go.Proofs.YtdkmkcgghhncdaaDoor.Plain
open Go.RowKit Go.Proofs.YtdkmkcgghhncdaaDoorW.PrintWords Go.Proofs.YtdkmkcgghhncdaaDoorW.PrintLast
set_option linter.unusedVariables false
open Q

theorem listed_ev {n : Nat} (hn : n ≤ 16) (f : Nat → Bool) : Ev (fun k => impl_listed.f k ((maskOf f n : Nat) : Int)) (posL f n) := by
  have key : ∀ d i (out : List Int), n - i = d → i ≤ n → out.length ≤ i → Ev (fun k => impl_listed.l0 k ((maskOf (restF f i) n : Nat) : Int) out) (out ++ posFrom f n i) := by
    intro d
    induction d with
    | zero =>
      intro i out hd hi _
      obtain rfl : i = n := by omega
      have hz : maskOf (restF f i) i = 0 := by
        apply Nat.eq_of_testBit_eq
        intro j
        rw [maskOf_bit, Nat.zero_testBit]
        by_cases c : j < i
        · simp [restF, show ¬ i ≤ j by omega]
        · simp [c]
      rw [hz, posFrom_end _ (Nat.le_refl _), List.append_nil]
      exact Ev.step (f := fun _ => some out) (fun k => by simp only [impl_listed.l0]; rw [if_neg (by omega)]) (Ev.now _)
    | succ d ih =>
      intro i out hd hi ho
      have hi' : i < n := by omega
      rw [posFrom_step f hi']
      by_cases c : f i = true
      · obtain ⟨e1, e2, e3⟩ := rest_yes hi' hn c
        have hlt := mask16 (f := restF f i) hn
        have e4 : bits_TrailingZeros16.f ((maskOf (restF f i) n : Nat) : Int) = some (i : Int) := by
          unfold bits_TrailingZeros16.f
          rw [if_pos (by omega), if_neg (by omega), Int.toNat_natCast, e1]
        have e5 : IntKind.u16.wrap (((maskOf (restF f i) n : Nat) : Int) - 1) = ((maskOf (restF f i) n - 1 : Nat) : Int) := by
          rw [show ((maskOf (restF f i) n : Nat) : Int) - 1 = ((maskOf (restF f i) n - 1 : Nat) : Int) by omega]
          exact wraps_u16 _ (by omega) (by omega)
        rw [if_pos c, ← List.append_assoc]
        refine Ev.step (f := fun k => impl_listed.l0 k ((maskOf (restF f (i + 1)) n : Nat) : Int) (out ++ [(i : Int)])) (fun k => ?_) (ih (i + 1) _ (by omega) (by omega) (by simp; omega))
        simp only [impl_listed.l0]
        rw [if_pos (by omega), e4, Option.bind_some, if_pos (by omega), e5, and16 hlt (by omega), e2]
      · have c' : f i = false := by simpa using c
        rw [if_neg c, List.nil_append, rest_no c']
        exact ih (i + 1) out (by omega) (by omega) (by omega)
  have e : maskOf f n = maskOf (restF f 0) n := maskOf_congr (fun b _ => by simp [restF])
  rw [e]
  exact key n 0 [] (by omega) (by omega) (by simp)
end Go.Proofs.YtdkmkcgghhncdaaDoor.Plain

/- Rows of people, each beside a friend: the whole ones behind one begun. -/
namespace Go.Proofs.YtdkmkcgghhncdaaDoor.Plain
open Go.RowKit Go.Proofs.YtdkmkcgghhncdaaDoorW.PrintWords Go.Proofs.YtdkmkcgghhncdaaDoorW.PrintLast
set_option linter.unusedVariables false
open Q

/-- May a follow a row begun. -/
def okR (f : Nat → Nat → Bool) (b : List Nat) (a : Nat) : Bool := !b.contains a && (match b.getLast? with | none => true | some l => f l a)
/-- The whole rows behind one begun, d people before its end. -/
def whole (n : Nat) (f : Nat → Nat → Bool) : Nat → List Nat → List (List Nat)
  | 0, b => [b]
  | d + 1, b => (List.range n).flatMap fun a => if okR f b a = true then whole n f d (b ++ [a]) else []
def encR (b : List Nat) : List Int := b.map fun x : Nat => (x : Int)
theorem encR_length (b : List Nat) : (encR b).length = b.length := by simp [encR]
theorem encR_snoc (b : List Nat) (a : Nat) : encR (b ++ [a]) = encR b ++ [(a : Int)] := by simp [encR]
theorem encR_contains (b : List Nat) (a : Nat) : (encR b).contains (a : Int) = b.contains a := by
  rw [Bool.eq_iff_iff, List.contains_iff_mem, List.contains_iff_mem]
  unfold encR
  rw [List.mem_map]
  constructor
  · rintro ⟨x, hx, e⟩
    obtain rfl : x = a := by omega
    exact hx
  · exact fun h => ⟨a, h, rfl⟩
/-- The part of the whole rows that starts at the a-th follower. -/
def wholeFrom (n : Nat) (f : Nat → Nat → Bool) (d : Nat) (b : List Nat) (a : Nat) : List (List Nat) := ((List.range n).drop a).flatMap fun a => if okR f b a = true then whole n f d (b ++ [a]) else []
theorem wholeFrom_end (n : Nat) (f : Nat → Nat → Bool) (d : Nat) (b : List Nat) : wholeFrom n f d b n = [] := by
  unfold wholeFrom
  rw [List.drop_of_length_le (by simp)]; rfl
theorem wholeFrom_step {n : Nat} {f : Nat → Nat → Bool} {d : Nat} {b : List Nat} {a : Nat} (h : a < n) : wholeFrom n f d b a = (if okR f b a = true then whole n f d (b ++ [a]) else []) ++ wholeFrom n f d b (a + 1) := by
  unfold wholeFrom
  rw [List.drop_eq_getElem_cons (by simpa using h), List.getElem_range, List.flatMap_cons]
theorem whole_from (n : Nat) (f : Nat → Nat → Bool) (d : Nat) (b : List Nat) : whole n f (d + 1) b = wholeFrom n f d b 0 := by
  unfold wholeFrom
  rw [List.drop_zero]; rfl
theorem whole_length (n : Nat) (f : Nat → Nat → Bool) : ∀ (d : Nat) (b : List Nat), ∀ x ∈ whole n f d b, x.length = b.length + d
  | 0, b, x, h => by
    simp only [whole, List.mem_singleton] at h
    subst h; rfl
  | d + 1, b, x, h => by
    simp only [whole] at h
    obtain ⟨a, _, h⟩ := List.mem_flatMap.1 h
    split at h
    · have := whole_length n f d (b ++ [a]) x h
      rw [List.length_append, List.length_singleton] at this
      omega
    · simp at h
end Go.Proofs.YtdkmkcgghhncdaaDoor.Plain

/- The program's rows: the first whole row that is told. No condition but that there are at most twelve people. -/
namespace Go.Proofs.YtdkmkcgghhncdaaDoor.Plain
open Go.RowKit Go.Proofs.YtdkmkcgghhncdaaDoorW.PrintWords Go.Proofs.YtdkmkcgghhncdaaDoorW.PrintLast
set_option linter.unusedVariables false
open Q

theorem encR_last {b : List Nat} (h : 0 < b.length) (hb : b.length ≤ 12) : rd (encR b) (wrap64 ((b.length : Int) - 1)) = ((b.getLast (List.length_pos_iff.1 h) : Nat) : Int) := by
  have e : wrap64 ((b.length : Int) - 1) = ((b.length - 1 : Nat) : Int) := by unfold wrap64; omega
  have hl : b.length - 1 < (encR b).length := by rw [encR_length]; omega
  rw [e, rd_at hl]
  simp [encR, List.getLast_eq_getElem]
theorem okR_some {f : Nat → Nat → Bool} {b : List Nat} {a : Nat} (h : 0 < b.length) : okR f b a = (!b.contains a && f (b.getLast (List.length_pos_iff.1 h)) a) := by
  unfold okR
  rw [List.getLast?_eq_some_getLast (List.length_pos_iff.1 h)]
theorem okR_nil {f : Nat → Nat → Bool} {a : Nat} : okR f [] a = true := by simp [okR]
end Go.Proofs.YtdkmkcgghhncdaaDoor.Plain

/- The reference's rows: how many whole rows are told, and the first one. No condition but that there are at most twelve people. -/
namespace Go.Proofs.YtdkmkcgghhncdaaDoor.Plain
open Go.RowKit Go.Proofs.YtdkmkcgghhncdaaDoorW.PrintWords Go.Proofs.YtdkmkcgghhncdaaDoorW.PrintLast
set_option linter.unusedVariables false
open Q

/-- Whole rows put to what is known. -/
def appR (q : Int × List Int) (l : List (List Nat)) : Int × List Int := (q.1 + (l.length : Int), if q.1 = 0 then ((l.head?).map encR).getD q.2 else q.2)
theorem appR_nil (q : Int × List Int) : appR q [] = q := by
  unfold appR; ext1
  · simp
  · simp
theorem appR_append {q : Int × List Int} (h : 0 ≤ q.1) (l m : List (List Nat)) : appR (appR q l) m = appR q (l ++ m) := by
  unfold appR
  simp only [List.length_append, List.head?_append]
  ext1
  · simp only []; omega
  · simp only []
    by_cases c : q.1 = 0
    · cases l with
      | nil => simp [c]
      | cons x t =>
        have : ¬ (q.1 + (((x :: t).length : Nat) : Int) = 0) := by simp only [List.length_cons]; omega
        rw [if_neg this, if_pos c, if_pos c]; simp
    · have : ¬ (q.1 + (l.length : Int) = 0) := by omega
      rw [if_neg this, if_neg c, if_neg c]
/-- Is a whole row told: any, or a round in one of its two directions. -/
def toldB (n : Nat) (f : Nat → Nat → Bool) (ar : Bool) (b : List Nat) : Bool := !ar || (decide (3 ≤ n) && f (b.getLastD 0) (b.getD 0 0) && decide (b.getD 1 0 ≤ b.getLastD 0))
theorem taRow_eq {n : Nat} {f : Nat → Nat → Bool} {a : Nat} (h : a < n) : spec_taLook.row (tabB n f) (a : Int) = rowB n (f a) := by
  unfold spec_taLook.row
  rw [Int.toNat_natCast, List.getD_eq_getElem?_getD, List.getElem?_eq_getElem (by rw [tabB_length]; exact h), Option.getD_some, tabB_getElem]
theorem rowB_rd {n : Nat} {f : Nat → Bool} {a : Nat} (h : a < n) : rdOf false (rowB n f) (a : Int) = f a := by
  rw [rdOfB_at (by rw [rowB_length]; exact h), rowB_get]
theorem encR_rd {b : List Nat} {i : Nat} (h : i < b.length) : rd (encR b) (i : Int) = ((b[i] : Nat) : Int) := by
  rw [rd_at (by rw [encR_length]; exact h)]; simp [encR]
theorem taBad_eq {n : Nat} {f : Nat → Nat → Bool} {ar : Bool} {b : List Nat} (hl : b.length = n) (hz : 0 < b.length) (hx : ∀ x ∈ b, x < n) : spec_taLook.bad (tabB n f) (encR b) ar ((b.getLast (List.length_pos_iff.1 hz) : Nat) : Int) = some (!toldB n f ar b) := by
  have hlast : b.getLast (List.length_pos_iff.1 hz) < n := hx _ (List.getLast_mem _)
  have eD : b.getLastD 0 = b.getLast (List.length_pos_iff.1 hz) := by
    rw [List.getLastD_eq_getLast?, List.getLast?_eq_some_getLast (List.length_pos_iff.1 hz), Option.getD_some]
  have e0 : b.getD 0 0 = b[0] := by rw [List.getD_eq_getElem?_getD, List.getElem?_eq_getElem hz, Option.getD_some]
  have r0 : rd (encR b) 0 = ((b[0] : Nat) : Int) := encR_rd (i := 0) hz
  have h0 : b[0] < n := hx _ (List.getElem_mem _)
  unfold spec_taLook.bad toldB
  rw [eD, e0, r0, tabB_length, encR_length, taRow_eq hlast, rowB_length, rowB_rd h0]
  generalize b.getLast (List.length_pos_iff.1 hz) = la at hlast
  cases ar with
  | false => rfl
  | true =>
    rw [if_pos rfl]
    by_cases h3 : (n : Int) < 3
    · rw [if_pos h3, show decide (3 ≤ n) = false from decide_eq_false (by omega)]; rfl
    · have e1 : b.getD 1 0 = b[1] := by rw [List.getD_eq_getElem?_getD, List.getElem?_eq_getElem (by omega), Option.getD_some]
      have r1 : rd (encR b) 1 = ((b[1] : Nat) : Int) := encR_rd (i := 1) (by omega)
      rw [if_neg h3, if_pos (by omega), if_pos (by omega), if_pos (by omega), if_pos (by omega), if_pos (by omega), show decide (3 ≤ n) = true from decide_eq_true (by omega), e1, r1]
      by_cases c : f la b[0] = true
      · rw [if_pos c, if_pos (by omega), c]
        congr 1
        simp only [Bool.not_true, Bool.false_or, Bool.true_and]
        by_cases g : b[1] ≤ la
        · rw [decide_eq_true g, decide_eq_false (by omega)]; rfl
        · rw [decide_eq_false g, decide_eq_true (by omega)]; rfl
      · rw [if_neg c, show f la b[0] = false by simpa using c]; rfl
theorem own_eqR {l : List Int} (h : l.length ≤ 1000) : spec_l1Own.f l = some l := by
  unfold spec_l1Own.f
  simp [show l.length < 17592186044416 by omega]
theorem look_ev {n : Nat} (hn : n ≤ 12) (f : Nat → Nat → Bool) (ar : Bool) : ∀ (d : Nat) (b : List Nat), 0 < b.length → b.length + d = n → (∀ x ∈ b, x < n) → ∀ q : Int × List Int, 0 ≤ q.1 → q.1 + (((whole n f d b).filter (toldB n f ar)).length : Int) ≤ 4611686018427387904 → Ev (fun k => spec_taLook.f k (tabB n f) (encR b) ar q.1 q.2) (appR q ((whole n f d b).filter (toldB n f ar))) := by
  intro d
  induction d with
  | zero =>
    intro b hz hb hx q hq hm
    have hT : (tabB n f).length = n := tabB_length _ _
    have hL : ((encR b).length : Int) = (b.length : Int) := by rw [encR_length]
    refine Ev.step (f := fun _ => some (if toldB n f ar b = true then (if q.1 = 0 then (q.1 + 1, encR b) else (q.1 + 1, q.2)) else (q.1, q.2))) (fun k => ?_) ?_
    · simp only [spec_taLook.f]
      rw [hL, if_pos (show (0 : Int) ≤ wrap64 ((b.length : Int) - 1) by rw [pred_cast (by omega) (by omega)]; omega), if_pos (show wrap64 ((b.length : Int) - 1) < (b.length : Int) by rw [pred_cast (by omega) (by omega)]; omega), hT, if_pos (by omega), encR_last hz (by omega), taBad_eq (by omega) hz hx, Option.bind_some]
      cases ht : toldB n f ar b with
      | false => rfl
      | true =>
        have hw : wrap64 (q.1 + 1) = q.1 + 1 := wrap_id (by omega) (by
          have : ((whole n f 0 b).filter (toldB n f ar)).length = 1 := by simp [whole, ht]
          omega)
        rw [if_neg (by simp), if_pos rfl, hw]
        by_cases c : q.1 = 0
        · rw [if_pos c, if_pos c, own_eqR (by rw [encR_length]; omega), Option.bind_some]
        · rw [if_neg c, if_neg c]
    · have e : (whole n f 0 b).filter (toldB n f ar) = if toldB n f ar b = true then [b] else [] := by
        by_cases c : toldB n f ar b = true
        · rw [if_pos c]; simp [whole, c]
        · rw [if_neg c]; simp [whole, c]
      rw [e]
      by_cases c : toldB n f ar b = true
      · rw [if_pos c, if_pos c]
        unfold appR
        by_cases g : q.1 = 0
        · rw [if_pos g, if_pos g]; exact Ev.now _
        · rw [if_neg g, if_neg g]; exact Ev.now _
      · rw [if_neg c, if_neg c, appR_nil]; exact Ev.now _
  | succ d ih =>
    intro b hz hb hx q hq hm
    have hT : (tabB n f).length = n := tabB_length _ _
    have hL : ((encR b).length : Int) = (b.length : Int) := by rw [encR_length]
    have hlast : b.getLast (List.length_pos_iff.1 hz) < n := hx _ (List.getLast_mem _)
    rw [whole_from] at hm ⊢
    have loop : ∀ e a, n - a = e → a ≤ n → ∀ q : Int × List Int, 0 ≤ q.1 → q.1 + (((wholeFrom n f d b a).filter (toldB n f ar)).length : Int) ≤ 4611686018427387904 → Ev (fun k => spec_taLook.l0 k (tabB n f) (encR b) ar ((b.getLast (List.length_pos_iff.1 hz) : Nat) : Int) (a : Int) q.1 q.2) (appR q ((wholeFrom n f d b a).filter (toldB n f ar))) := by
      intro e
      induction e with
      | zero =>
        intro a he ha q hq hm
        obtain rfl : a = n := by omega
        rw [wholeFrom_end, List.filter_nil, appR_nil]
        exact Ev.step (f := fun _ => some (q.1, q.2)) (fun k => by simp only [spec_taLook.l0]; rw [taRow_eq hlast, rowB_length, if_neg (by omega)]) (Ev.now _)
      | succ e ihe =>
        intro a he ha q hq hm
        have han : a < n := by omega
        rw [wholeFrom_step han, List.filter_append] at hm ⊢
        rw [List.length_append] at hm
        have hc : Ev (fun k => spec_l1Has.f k (encR b) (a : Int)) (b.contains a) := by
          rw [← encR_contains]; exact l1Has_ev _ _ (by rw [encR_length]; omega)
        by_cases hf : f (b.getLast (List.length_pos_iff.1 hz)) a = true
        · refine Ev.step (f := fun k => (spec_l1Has.f k (encR b) (a : Int)).bind fun h => if h = true then spec_taLook.l0 k (tabB n f) (encR b) ar ((b.getLast (List.length_pos_iff.1 hz) : Nat) : Int) ((a + 1 : Nat) : Int) q.1 q.2 else ((spec_l1Own.f (encR b)).bind fun o => (if o.length < 17592186044416 then ((spec_taLook.f k (tabB n f) (o ++ [(a : Int)]) ar q.1 q.2).bind fun q_ => spec_taLook.l0 k (tabB n f) (encR b) ar ((b.getLast (List.length_pos_iff.1 hz) : Nat) : Int) ((a + 1 : Nat) : Int) q_.1 q_.2) else none))) (fun k => ?_) ?_
          · simp only [spec_taLook.l0]
            rw [taRow_eq hlast, rowB_length, rowB_rd han, if_pos (by omega), if_pos (by omega), if_pos hf, succ_cast han (by omega)]
          · refine Ev.bind hc ?_
            cases hin : b.contains a with
            | true =>
              have hok : ¬ okR f b a = true := by rw [okR_some hz, hin]; simp
              rw [if_neg hok, List.filter_nil, List.length_nil] at hm
              rw [if_neg hok, List.filter_nil, List.nil_append]
              exact ihe (a + 1) (by omega) (by omega) q hq (by omega)
            | false =>
              have hok : okR f b a = true := by rw [okR_some hz, hin, hf]; rfl
              rw [if_pos hok] at hm ⊢
              refine ev_bind0 (own_eqR (by rw [encR_length]; omega)) ?_
              refine ev_if (fun _ => ?_) (fun c => absurd (by rw [encR_length]; omega) c)
              have h1 := ih (b ++ [a]) (by rw [List.length_append, List.length_singleton]; omega) (by rw [List.length_append, List.length_singleton]; omega) (fun x h => by
                rcases List.mem_append.1 h with h | h
                · exact hx x h
                · obtain rfl := List.mem_singleton.1 h; exact han) q hq (by omega)
              rw [encR_snoc] at h1
              refine Ev.bind h1 ?_
              rw [← appR_append hq]
              exact ihe (a + 1) (by omega) (by omega) (appR q _) (by unfold appR; simp only []; omega) (by unfold appR; simp only []; omega)
        · have hok : ¬ okR f b a = true := by
            rw [okR_some hz]; simp only [Bool.and_eq_true]; exact fun h => hf h.2
          rw [if_neg hok, List.filter_nil, List.length_nil] at hm
          rw [if_neg hok, List.filter_nil, List.nil_append]
          refine Ev.step (f := fun k => spec_taLook.l0 k (tabB n f) (encR b) ar ((b.getLast (List.length_pos_iff.1 hz) : Nat) : Int) ((a + 1 : Nat) : Int) q.1 q.2) (fun k => ?_) (ihe (a + 1) (by omega) (by omega) q hq (by omega))
          simp only [spec_taLook.l0]
          rw [taRow_eq hlast, rowB_length, rowB_rd han, if_pos (by omega), if_pos (by omega), if_neg hf, succ_cast han (by omega)]
    refine Ev.step (f := fun k => spec_taLook.l0 k (tabB n f) (encR b) ar ((b.getLast (List.length_pos_iff.1 hz) : Nat) : Int) ((0 : Nat) : Int) q.1 q.2) (fun k => ?_) (loop n 0 (by omega) (by omega) q hq hm)
    simp only [spec_taLook.f]
    rw [hL, if_pos (show (0 : Int) ≤ wrap64 ((b.length : Int) - 1) by rw [pred_cast (by omega) (by omega)]; omega), if_pos (show wrap64 ((b.length : Int) - 1) < (b.length : Int) by rw [pred_cast (by omega) (by omega)]; omega), hT, if_neg (by omega), encR_last hz (by omega), if_pos (by omega), if_pos (by omega)]
    rfl
/-- How many whole rows there can be. -/
theorem whole_many (n : Nat) (f : Nat → Nat → Bool) : ∀ (d : Nat) (b : List Nat), (whole n f d b).length ≤ n ^ d
  | 0, b => by simp [whole]
  | d + 1, b => by
    have h : ∀ l : List Nat, (l.flatMap fun a => if okR f b a = true then whole n f d (b ++ [a]) else []).length ≤ l.length * n ^ d := by
      intro l
      induction l with
      | nil => simp
      | cons a l ih =>
        rw [List.flatMap_cons, List.length_append, List.length_cons, Nat.succ_mul]
        have : (if okR f b a = true then whole n f d (b ++ [a]) else []).length ≤ n ^ d := by
          split
          · exact whole_many n f d (b ++ [a])
          · simp
        omega
    have := h (List.range n)
    rw [List.length_range] at this
    rw [Nat.pow_succ, Nat.mul_comm]
    exact this
/-- All rows, or the rounds from the first on. -/
def allR (n : Nat) (f : Nat → Nat → Bool) (ar : Bool) : List (List Nat) := (if ar = true then (if 0 < n then whole n f (n - 1) [0] else []) else (if 0 < n then whole n f n [] else [])).filter (toldB n f ar)
theorem allR_many {n : Nat} (hn : n ≤ 9) (f : Nat → Nat → Bool) (ar : Bool) : (allR n f ar).length ≤ 387420489 := by
  unfold allR
  refine Nat.le_trans (List.length_filter_le _ _) ?_
  have hp : ∀ d, d ≤ 9 → n ^ d ≤ 387420489 := fun d hd => by
    rcases Nat.eq_zero_or_pos n with h | h
    · subst h
      rcases Nat.eq_zero_or_pos d with h2 | h2
      · subst h2; decide
      · rw [Nat.zero_pow h2]; omega
    · exact Nat.le_trans (Nat.pow_le_pow_right h hd) (Nat.le_trans (Nat.pow_le_pow_left hn 9) (by decide))
  split
  · split
    · exact Nat.le_trans (whole_many _ _ _ _) (hp _ (by omega))
    · simp
  · split
    · exact Nat.le_trans (whole_many _ _ _ _) (hp _ (by omega))
    · simp
theorem taAll_ev {n : Nat} (hn : n ≤ 9) (f : Nat → Nat → Bool) (ar : Bool) : Ev (fun k => spec_taAll.l0 k (tabB n f) ar 0 0 []) (appR (0, []) (allR n f ar)) := by
  have hT : (tabB n f).length = n := tabB_length _ _
  have hm := allR_many hn f ar
  unfold allR at hm ⊢
  cases ar with
  | true =>
    have skip : ∀ e a, n - a = e → a ≤ n → 0 < a → ∀ q : Int × List Int, Ev (fun k => spec_taAll.l0 k (tabB n f) true (a : Int) q.1 q.2) q := by
      intro e
      induction e with
      | zero =>
        intro a he ha h0 q
        exact Ev.step (f := fun _ => some (q.1, q.2)) (fun k => by simp only [spec_taAll.l0]; rw [hT, if_neg (by omega)]) (Ev.now _)
      | succ e ihe =>
        intro a he ha h0 q
        exact Ev.step (f := fun k => spec_taAll.l0 k (tabB n f) true ((a + 1 : Nat) : Int) q.1 q.2) (fun k => by
          simp only [spec_taAll.l0]
          rw [hT, if_pos (by omega), if_neg (by omega), if_pos trivial, succ_cast (show a < n by omega) (by omega)]) (ihe (a + 1) (by omega) (by omega) (by omega) q)
    rw [if_pos rfl] at hm ⊢
    by_cases hz : 0 < n
    · rw [if_pos hz] at hm ⊢
      refine Ev.step (f := fun k => (spec_taLook.f k (tabB n f) [0] true 0 []).bind fun q => spec_taAll.l0 k (tabB n f) true ((1 : Nat) : Int) q.1 q.2) (fun k => by
        simp only [spec_taAll.l0]
        rw [hT, if_pos (by omega), if_pos trivial, show wrap64 ((0 : Int) + 1) = ((1 : Nat) : Int) by unfold wrap64; omega]) ?_
      refine Ev.bind (look_ev (by omega) f true (n - 1) [0] (by simp) (by simp; omega) (by simpa using hz) (0, []) (by simp) (by show (0 : Int) + _ ≤ _; omega)) ?_
      exact skip (n - 1) 1 (by omega) (by omega) (by omega) _
    · rw [if_neg hz, List.filter_nil, appR_nil]
      exact Ev.step (f := fun _ => some (0, [])) (fun k => by simp only [spec_taAll.l0]; rw [hT, if_neg (by omega)]) (Ev.now _)
  | false =>
    rw [if_neg (by simp)] at hm ⊢
    by_cases hz : 0 < n
    · rw [if_pos hz] at hm ⊢
      obtain ⟨d, rfl⟩ : ∃ d, n = d + 1 := ⟨n - 1, by omega⟩
      rw [whole_from] at hm ⊢
      have loop : ∀ e a, d + 1 - a = e → a ≤ d + 1 → ∀ q : Int × List Int, 0 ≤ q.1 → q.1 + (((wholeFrom (d + 1) f d [] a).filter (toldB (d + 1) f false)).length : Int) ≤ 4611686018427387904 → Ev (fun k => spec_taAll.l0 k (tabB (d + 1) f) false (a : Int) q.1 q.2) (appR q ((wholeFrom (d + 1) f d [] a).filter (toldB (d + 1) f false))) := by
        intro e
        induction e with
        | zero =>
          intro a he ha q hq hm
          obtain rfl : a = d + 1 := by omega
          rw [wholeFrom_end, List.filter_nil, appR_nil]
          exact Ev.step (f := fun _ => some (q.1, q.2)) (fun k => by simp only [spec_taAll.l0]; rw [hT, if_neg (by omega)]) (Ev.now _)
        | succ e ihe =>
          intro a he ha q hq hm
          have han : a < d + 1 := by omega
          rw [wholeFrom_step han, List.filter_append] at hm ⊢
          rw [List.length_append] at hm
          rw [if_pos okR_nil, List.nil_append] at hm ⊢
          have h1 := look_ev (n := d + 1) (by omega) f false d [a] (by simp) (by simp; omega) (by simpa using han) q hq (by omega)
          refine Ev.step (f := fun k => (spec_taLook.f k (tabB (d + 1) f) [(a : Int)] false q.1 q.2).bind fun q_ => spec_taAll.l0 k (tabB (d + 1) f) false ((a + 1 : Nat) : Int) q_.1 q_.2) (fun k => by
            simp only [spec_taAll.l0]
            rw [hT, if_pos (by omega), succ_cast han (by omega)]
            by_cases c : (a : Int) = 0
            · rw [if_pos c]
            · rw [if_neg c, if_neg (by simp)]) ?_
          refine Ev.bind h1 ?_
          rw [← appR_append hq]
          exact ihe (a + 1) (by omega) (by omega) (appR q _) (by unfold appR; simp only []; omega) (by unfold appR; simp only []; exact (by omega))
      exact loop (d + 1) 0 (by omega) (by omega) (0, []) (by simp) (by show (0 : Int) + _ ≤ _; omega)
    · rw [if_neg hz, List.filter_nil, appR_nil]
      exact Ev.step (f := fun _ => some (0, [])) (fun k => by simp only [spec_taAll.l0]; rw [hT, if_neg (by omega)]) (Ev.now _)
end Go.Proofs.YtdkmkcgghhncdaaDoor.Plain

/- Whole rows from the first person: no one stands in them twice, and a round is told in one of its two directions. -/
namespace Go.Proofs.YtdkmkcgghhncdaaDoor.Plain
open Go.RowKit Go.Proofs.YtdkmkcgghhncdaaDoorW.PrintWords Go.Proofs.YtdkmkcgghhncdaaDoorW.PrintLast
set_option linter.unusedVariables false
open Q

theorem whole_prefix (n : Nat) (f : Nat → Nat → Bool) : ∀ (d : Nat) (b : List Nat), ∀ x ∈ whole n f d b, b <+: x
  | 0, b, x, h => by
    simp only [whole, List.mem_singleton] at h
    subst h; exact List.prefix_refl _
  | d + 1, b, x, h => by
    simp only [whole] at h
    obtain ⟨a, _, h⟩ := List.mem_flatMap.1 h
    split at h
    · exact (List.prefix_append b [a]).trans (whole_prefix n f d (b ++ [a]) x h)
    · simp at h
theorem whole_nodup (n : Nat) (f : Nat → Nat → Bool) : ∀ (d : Nat) (b : List Nat), b.Nodup → ∀ x ∈ whole n f d b, x.Nodup
  | 0, b, hb, x, h => by
    simp only [whole, List.mem_singleton] at h
    subst h; exact hb
  | d + 1, b, hb, x, h => by
    simp only [whole] at h
    obtain ⟨a, _, h⟩ := List.mem_flatMap.1 h
    split at h
    · rename_i hok
      have hn : a ∉ b := by
        unfold okR at hok
        simp only [Bool.and_eq_true, Bool.not_eq_true'] at hok
        intro q
        rw [← List.contains_iff_mem, hok.1] at q
        cases q
      refine whole_nodup n f d (b ++ [a]) ?_ x h
      rw [List.nodup_append]
      refine ⟨hb, by simp, ?_⟩
      intro y hy z hz
      obtain rfl := List.mem_singleton.1 hz
      exact fun e => hn (e ▸ hy)
    · simp at h
/-- The program's way to tell a round. -/
def toldI (f : Nat → Nat → Bool) (b : List Nat) : Bool := f (b.getLastD 0) 0 && decide (b.getD 1 0 < b.getLastD 0)
/-- Of a whole row from the first person both say the same. -/
theorem told_same {n : Nat} (h3 : 3 ≤ n) (f : Nat → Nat → Bool) {x : List Nat} (hx : x ∈ whole n f (n - 1) [0]) : toldI f x = toldB n f true x := by
  have hl : x.length = n := by
    have := whole_length n f (n - 1) [0] x hx
    rw [List.length_singleton] at this
    omega
  have hz : 0 < x.length := by omega
  have h0 : x.getD 0 0 = 0 := by
    obtain ⟨t, rfl⟩ := whole_prefix n f (n - 1) [0] x hx
    rfl
  have hnd := whole_nodup n f (n - 1) [0] (by simp) x hx
  have eD : x.getLastD 0 = x[n - 1] := by
    rw [List.getLastD_eq_getLast?, List.getLast?_eq_some_getLast (List.length_pos_iff.1 hz), Option.getD_some, List.getLast_eq_getElem]
    congr 1
    omega
  have e1 : x.getD 1 0 = x[1] := by rw [List.getD_eq_getElem?_getD, List.getElem?_eq_getElem (by omega), Option.getD_some]
  have hne : x[1] ≠ x[n - 1] := by
    intro e
    have := (List.getElem_inj hnd).1 e
    omega
  unfold toldI toldB
  rw [h0, eD, e1, decide_eq_true h3, Bool.not_true, Bool.false_or, Bool.true_and]
  congr 1
  exact decide_eq_decide.mpr (by omega)
theorem filter_told {n : Nat} (h3 : 3 ≤ n) (f : Nat → Nat → Bool) : (whole n f (n - 1) [0]).filter (toldI f) = allR n f true := by
  unfold allR
  rw [if_pos rfl, if_pos (by omega)]
  exact List.filter_congr fun x hx => told_same h3 f hx
theorem allR_few {n : Nat} (h : n < 3) (f : Nat → Nat → Bool) : allR n f true = [] := by
  unfold allR
  rw [List.filter_eq_nil_iff]
  intro x _
  unfold toldB
  rw [decide_eq_false (show ¬ 3 ≤ n by omega)]
  simp
end Go.Proofs.YtdkmkcgghhncdaaDoor.Plain

/- Whole rows from the first person: which lists they are, and that every round stands twice among them. -/
namespace Go.Proofs.YtdkmkcgghhncdaaDoor.Plain
open Go.RowKit Go.Proofs.YtdkmkcgghhncdaaDoorW.PrintWords Go.Proofs.YtdkmkcgghhncdaaDoorW.PrintLast
set_option linter.unusedVariables false
open Q

/-- Neighbours in a list are friends. -/
def adjL (f : Nat → Nat → Bool) (x : List Nat) : Prop := ∀ i, (h : i + 1 < x.length) → f x[i] x[i + 1] = true
theorem adjL_snoc {f : Nat → Nat → Bool} {b : List Nat} {a : Nat} (hz : 0 < b.length) : adjL f (b ++ [a]) ↔ adjL f b ∧ f (b.getLast (List.length_pos_iff.1 hz)) a = true := by
  constructor
  · intro h
    constructor
    · intro i hi
      have := h i (by rw [List.length_append]; omega)
      rwa [List.getElem_append_left (by omega), List.getElem_append_left (by omega)] at this
    · have := h (b.length - 1) (by rw [List.length_append, List.length_singleton]; omega)
      rw [List.getElem_append_left (by omega), List.getElem_append_right (by omega)] at this
      rw [List.getLast_eq_getElem]
      simpa using this
  · rintro ⟨h, hl⟩ i hi
    rw [List.length_append, List.length_singleton] at hi
    by_cases c : i + 1 < b.length
    · rw [List.getElem_append_left (by omega), List.getElem_append_left (by omega)]
      exact h i c
    · have e : i = b.length - 1 := by omega
      subst e
      rw [List.getElem_append_left (by omega), List.getElem_append_right (by omega)]
      rw [List.getLast_eq_getElem] at hl
      simpa using hl
theorem mem_whole {n : Nat} (f : Nat → Nat → Bool) : ∀ (d : Nat) (b : List Nat), 0 < b.length → b.Nodup → adjL f b → (∀ a ∈ b, a < n) → ∀ x, x ∈ whole n f d b ↔ (b <+: x ∧ x.length = b.length + d ∧ (∀ a ∈ x, a < n) ∧ x.Nodup ∧ adjL f x)
  | 0, b, hz, hn, ha, hl, x => by
    simp only [whole, List.mem_singleton]
    constructor
    · rintro rfl
      exact ⟨List.prefix_refl _, rfl, hl, hn, ha⟩
    · rintro ⟨hp, hlen, _⟩
      exact (hp.eq_of_length (by omega)).symm
  | d + 1, b, hz, hn, ha, hl, x => by
    simp only [whole, List.mem_flatMap, List.mem_range]
    constructor
    · rintro ⟨a, han, hx⟩
      split at hx
      · rename_i hok
        rw [okR_some hz, Bool.and_eq_true] at hok
        have hna : a ∉ b := by
          intro q
          rw [← List.contains_iff_mem] at q
          rw [q] at hok
          simp at hok
        obtain ⟨hp, hlen, h1, h2, h3⟩ := (mem_whole f d (b ++ [a]) (by simp) (by
          rw [List.nodup_append]
          refine ⟨hn, by simp, ?_⟩
          intro y hy z hz2
          obtain rfl := List.mem_singleton.1 hz2
          exact fun e => hna (e ▸ hy)) ((adjL_snoc hz).2 ⟨ha, hok.2⟩) (by
          intro y hy
          rcases List.mem_append.1 hy with hy | hy
          · exact hl y hy
          · obtain rfl := List.mem_singleton.1 hy; exact han) x).1 hx
        rw [List.length_append, List.length_singleton] at hlen
        exact ⟨(List.prefix_append b [a]).trans hp, by omega, h1, h2, h3⟩
      · cases hx
    · rintro ⟨hp, hlen, h1, h2, h3⟩
      have hbx : b.length < x.length := by omega
      have hp2 : b ++ [x[b.length]] <+: x := by
        rw [List.prefix_iff_eq_take]
        rw [List.prefix_iff_eq_take] at hp
        rw [List.length_append, List.length_singleton, List.take_succ_eq_append_getElem hbx, ← hp]
      have hnd : (b ++ [x[b.length]]).Nodup := h2.sublist hp2.sublist
      have hadj : adjL f (b ++ [x[b.length]]) := by
        intro i hi
        have e1 := hp2.getElem (i := i) (by omega)
        have e2 := hp2.getElem (i := i + 1) hi
        rw [e1, e2]
        exact h3 i (by have := hp2.length_le; omega)
      refine ⟨x[b.length], h1 _ (List.getElem_mem _), ?_⟩
      have hok : okR f b x[b.length] = true := by
        rw [okR_some hz, ((adjL_snoc hz).1 hadj).2, Bool.and_true]
        have : x[b.length] ∉ b := by
          rw [List.nodup_append] at hnd
          intro q
          exact hnd.2.2 _ q _ (by simp) rfl
        simpa using this
      rw [if_pos hok]
      exact (mem_whole f d (b ++ [x[b.length]]) (by simp) hnd hadj (fun y hy => h1 y (hp2.subset hy)) x).2 ⟨hp2, by rw [List.length_append, List.length_singleton]; omega, h1, h2, h3⟩
theorem whole_apart (n : Nat) (f : Nat → Nat → Bool) : ∀ (d : Nat) (b : List Nat), (whole n f d b).Nodup
  | 0, b => by simp [whole]
  | d + 1, b => by
    simp only [whole]
    rw [List.Nodup, List.pairwise_flatMap]
    constructor
    · intro a _
      split
      · exact whole_apart n f d (b ++ [a])
      · exact List.Pairwise.nil
    · refine List.Pairwise.imp ?_ (List.nodup_range (n := n))
      intro a c hne x hx y hy e
      subst e
      split at hx
      · split at hy
        · have p1 := whole_prefix n f d _ x hx
          have p2 := whole_prefix n f d _ x hy
          have e1 := p1.getElem (i := b.length) (by simp)
          have e2 := p2.getElem (i := b.length) (by simp)
          rw [List.getElem_append_right (by omega)] at e1 e2
          simp only [Nat.sub_self, List.getElem_cons_zero] at e1 e2
          exact hne (e1.trans e2.symm)
        · cases hy
      · cases hx

/-- The rounds from the first person, each in both directions. -/
def rounds (n : Nat) (f : Nat → Nat → Bool) : List (List Nat) := (whole n f (n - 1) [0]).filter fun x => f (x.getLastD 0) 0
theorem rounds_apart (n : Nat) (f : Nat → Nat → Bool) : (rounds n f).Nodup := (whole_apart n f (n - 1) [0]).sublist List.filter_sublist
def turnR (x : List Nat) : List Nat := 0 :: x.tail.reverse
theorem mem_rounds {n : Nat} (h3 : 3 ≤ n) (f : Nat → Nat → Bool) (x : List Nat) : x ∈ rounds n f ↔ ∃ t : List Nat, x = 0 :: t ∧ t.length = n - 1 ∧ (∀ a ∈ t, a < n) ∧ (0 :: t).Nodup ∧ adjL f (0 :: t ++ [0]) := by
  unfold rounds
  rw [List.mem_filter, mem_whole (n := n) f (n - 1) [0] (by simp) (by simp) (fun i hi => absurd hi (by simp)) (by simp; omega)]
  constructor
  · rintro ⟨⟨hp, hl, h1, h2, ha⟩, hf⟩
    obtain ⟨t, rfl⟩ := hp
    refine ⟨t, rfl, by simp at hl; omega, fun a q => h1 a (by simp [q]), h2, ?_⟩
    rw [adjL_snoc (by simp)]
    refine ⟨ha, ?_⟩
    have eD : ([0] ++ t).getLastD 0 = (0 :: t).getLast (by simp) := by
      rw [List.getLastD_eq_getLast?, List.getLast?_eq_some_getLast (by simp), Option.getD_some]; rfl
    rw [eD] at hf
    exact hf
  · rintro ⟨t, rfl, hl, h1, h2, ha⟩
    rw [adjL_snoc (by simp)] at ha
    have eD : (0 :: t).getLastD 0 = (0 :: t).getLast (by simp) := by
      rw [List.getLastD_eq_getLast?, List.getLast?_eq_some_getLast (by simp), Option.getD_some]
    refine ⟨⟨⟨t, rfl⟩, by simp; omega, fun a q => ?_, h2, ha.1⟩, by rw [eD]; exact ha.2⟩
    rcases List.mem_cons.1 q with rfl | q
    · omega
    · exact h1 a q
theorem adjL_reverse {f : Nat → Nat → Bool} (hs : ∀ a b, f a b = f b a) {x : List Nat} (h : adjL f x) : adjL f x.reverse := by
  intro i hi
  rw [List.length_reverse] at hi
  rw [List.getElem_reverse, List.getElem_reverse, hs]
  have := h (x.length - 1 - (i + 1)) (by omega)
  have e : x.length - 1 - (i + 1) + 1 = x.length - 1 - i := by omega
  simp only [e] at this
  exact this
theorem turn_mem {n : Nat} (h3 : 3 ≤ n) {f : Nat → Nat → Bool} (hs : ∀ a b, f a b = f b a) {x : List Nat} (h : x ∈ rounds n f) : turnR x ∈ rounds n f := by
  rw [mem_rounds h3] at h ⊢
  obtain ⟨t, rfl, hl, h1, h2, ha⟩ := h
  refine ⟨t.reverse, rfl, by simpa using hl, fun a q => h1 a (by simpa using q), ?_, ?_⟩
  · rw [List.nodup_cons] at h2 ⊢
    exact ⟨by simpa using h2.1, (List.Perm.nodup_iff (List.reverse_perm t)).2 h2.2⟩
  · have := adjL_reverse hs ha
    simpa using this
theorem turn_turn {n : Nat} (h3 : 3 ≤ n) {f : Nat → Nat → Bool} {x : List Nat} (h : x ∈ rounds n f) : turnR (turnR x) = x := by
  rw [mem_rounds h3] at h
  obtain ⟨t, rfl, _⟩ := h
  simp [turnR]
/-- Told in this direction. -/
def thisWay (x : List Nat) : Bool := decide (x.getD 1 0 < x.getLastD 0)
theorem turn_way {n : Nat} (h3 : 3 ≤ n) {f : Nat → Nat → Bool} {x : List Nat} (h : x ∈ rounds n f) : thisWay (turnR x) = !thisWay x := by
  rw [mem_rounds h3] at h
  obtain ⟨t, rfl, hl, _, h2, _⟩ := h
  have ht : t ≠ [] := by intro e; subst e; simp at hl; omega
  have hlen : 0 < t.length := List.length_pos_iff.2 ht
  have e1 : (0 :: t).getD 1 0 = t[0] := by simp [List.getD, hlen]
  have e2 : (0 :: t).getLastD 0 = t[t.length - 1] := by
    rw [List.getLastD_eq_getLast?, List.getLast?_eq_some_getLast (by simp), Option.getD_some, List.getLast_cons ht, List.getLast_eq_getElem]
  have e3 : (0 :: t.reverse).getD 1 0 = t[t.length - 1] := by simp [List.getD, hlen]
  have e4 : (0 :: t.reverse).getLastD 0 = t[0] := by
    rw [List.getLastD_eq_getLast?, List.getLast?_eq_some_getLast (by simp), Option.getD_some, List.getLast_cons (by simpa using ht), List.getLast_reverse, List.head_eq_getElem]
  have hne : t[0] ≠ t[t.length - 1] := by
    intro e
    have := (List.getElem_inj (List.nodup_cons.1 h2).2).1 e
    omega
  unfold thisWay turnR
  rw [List.tail_cons, e1, e2, e3, e4]
  by_cases c : t[0] < t[t.length - 1]
  · rw [decide_eq_true c, decide_eq_false (by omega)]; rfl
  · rw [decide_eq_false c, decide_eq_true (by omega)]; rfl
theorem half_le {n : Nat} (h3 : 3 ≤ n) {f : Nat → Nat → Bool} (hs : ∀ a b, f a b = f b a) (p q : List Nat → Bool) (hpq : ∀ x ∈ rounds n f, p x = true → q (turnR x) = true) : ((rounds n f).filter p).length ≤ ((rounds n f).filter q).length := by
  have hnd : (((rounds n f).filter p).map turnR).Nodup := by
    rw [List.Nodup, List.pairwise_map]
    refine List.Pairwise.imp_of_mem ?_ ((rounds_apart n f).sublist List.filter_sublist)
    intro a b ha hb hne e
    have h1 := turn_turn h3 (List.mem_filter.1 ha).1
    have h2 := turn_turn h3 (List.mem_filter.1 hb).1
    rw [e, h2] at h1
    exact hne h1.symm
  have hsub : ((rounds n f).filter p).map turnR ⊆ (rounds n f).filter q := by
    intro y hy
    obtain ⟨x, hx, rfl⟩ := List.mem_map.1 hy
    have := List.mem_filter.1 hx
    exact List.mem_filter.2 ⟨turn_mem h3 hs this.1, hpq x this.1 this.2⟩
  have := List.Nodup.length_le_of_subset hnd hsub
  rwa [List.length_map] at this
theorem rounds_half {n : Nat} (h3 : 3 ≤ n) {f : Nat → Nat → Bool} (hs : ∀ a b, f a b = f b a) : (rounds n f).length = 2 * ((rounds n f).filter thisWay).length := by
  have h1 := half_le h3 hs thisWay (fun x => !thisWay x) (fun x hx hp => by rw [turn_way h3 hx, hp]; rfl)
  have h2 := half_le h3 hs (fun x => !thisWay x) thisWay (fun x hx hp => by rw [turn_way h3 hx]; exact hp)
  have h4 : (rounds n f).length = ((rounds n f).filter thisWay).length + ((rounds n f).filter fun x => !thisWay x).length := by
    have := List.length_eq_countP_add_countP thisWay (l := rounds n f)
    rw [List.countP_eq_length_filter, List.countP_eq_length_filter] at this
    rw [this]
    congr 2
    apply List.filter_congr
    intro x _
    cases thisWay x <;> rfl
  omega
/-- Twice as many rounds as are told. -/
theorem rounds_told {n : Nat} (h3 : 3 ≤ n) {f : Nat → Nat → Bool} (hs : ∀ a b, f a b = f b a) : (rounds n f).length = 2 * (allR n f true).length := by
  rw [rounds_half h3 hs, ← filter_told h3 f]
  congr 2
  unfold rounds
  rw [List.filter_filter]
  apply List.filter_congr
  intro x _
  unfold toldI thisWay
  rw [Bool.and_comm]
end Go.Proofs.YtdkmkcgghhncdaaDoor.Plain

/- How many ways lead on from a set of people and the last of them: the sum over a table of numbers of rows, each times the ways on, does not change while the rows grow. -/
namespace Go.Proofs.YtdkmkcgghhncdaaDoor.Plain
open Go.RowKit Go.Proofs.YtdkmkcgghhncdaaDoorW.PrintWords Go.Proofs.YtdkmkcgghhncdaaDoorW.PrintLast
set_option linter.unusedVariables false
open Q

/-- The ways on over d more people, back to the first one. -/
def waysD (n : Nat) (f : Nat → Nat → Bool) : Nat → Nat → Nat → Int
  | 0, _, v => if f v 0 = true then 1 else 0
  | d + 1, s, v => (((List.range n).filter fun a => f v a && !s.testBit a).map fun a => waysD n f d (s ||| 2 ^ a) a).sum
theorem ways_whole (n : Nat) (f : Nat → Nat → Bool) : ∀ (d : Nat) (b : List Nat) (s : Nat) (hz : 0 < b.length), (∀ a, a < n → s.testBit a = b.contains a) → waysD n f d s (b.getLast (List.length_pos_iff.1 hz)) = ((((whole n f d b).filter fun x => f (x.getLastD 0) 0).length : Nat) : Int)
  | 0, b, s, hz, _ => by
    have eD : b.getLastD 0 = b.getLast (List.length_pos_iff.1 hz) := by
      rw [List.getLastD_eq_getLast?, List.getLast?_eq_some_getLast (List.length_pos_iff.1 hz), Option.getD_some]
    simp only [waysD, whole, List.filter_cons, List.filter_nil, eD]
    split <;> rfl
  | d + 1, b, s, hz, hs => by
    have key : ∀ l : List Nat, (∀ a ∈ l, a < n) → ((l.filter fun a => f (b.getLast (List.length_pos_iff.1 hz)) a && !s.testBit a).map fun a => waysD n f d (s ||| 2 ^ a) a).sum = ((((l.flatMap fun a => if okR f b a = true then whole n f d (b ++ [a]) else []).filter fun x => f (x.getLastD 0) 0).length : Nat) : Int) := by
      intro l
      induction l with
      | nil => intro _; rfl
      | cons a l ih =>
        intro hl
        have han : a < n := hl a (by simp)
        have ih2 := ih (fun y hy => hl y (by simp [hy]))
        rw [List.flatMap_cons, List.filter_append, List.length_append, List.filter_cons]
        have e : (f (b.getLast (List.length_pos_iff.1 hz)) a && !s.testBit a) = okR f b a := by rw [okR_some hz, hs a han, Bool.and_comm]
        rw [e]
        by_cases c : okR f b a = true
        · rw [if_pos c, if_pos c, List.map_cons, List.sum_cons, ih2]
          have h1 := ways_whole n f d (b ++ [a]) (s ||| 2 ^ a) (by simp) (fun y hy => by
            rw [Nat.testBit_or, Nat.testBit_two_pow, hs y hy, Bool.eq_iff_iff]
            simp only [List.contains_iff_mem, Bool.or_eq_true, decide_eq_true_eq, List.mem_append, List.mem_singleton]
            constructor
            · rintro (h | h)
              · exact Or.inl h
              · exact Or.inr h.symm
            · rintro (h | h)
              · exact Or.inl h
              · exact Or.inr h.symm)
          have e2 : (b ++ [a]).getLast (by simp) = a := by simp
          rw [e2] at h1
          rw [h1]
          omega
        · rw [if_neg c, if_neg c, ih2]
          simp
    simp only [waysD, whole]
    exact key (List.range n) (fun a ha => by simpa using ha)

/-- How many people are in a set. -/
def card (n s : Nat) : Nat := cnt (fun a => s.testBit a) n
theorem card_le (n s : Nat) : card n s ≤ n := cnt_le _ _
theorem card_next {n s a : Nat} (ha : a < n) (h : s.testBit a = false) : card n (s ||| 2 ^ a) = card n s + 1 := by
  refine cnt_one ha h (fun b _ => ?_)
  rw [Nat.testBit_or, Nat.testBit_two_pow]
  simp [eq_comm]
theorem card_full {n s : Nat} (hs : s < 2 ^ n) (h : card n s = n) : s = 2 ^ n - 1 := by
  have hall : ∀ a ∈ List.range n, s.testBit a = true := by
    have := List.countP_eq_length (l := List.range n) (p := fun a => s.testBit a)
    unfold card cnt at h
    rw [List.length_range] at this
    exact this.1 h
  apply Nat.eq_of_testBit_eq
  intro i
  rw [Nat.testBit_two_pow_sub_one]
  by_cases c : i < n
  · rw [hall i (by simpa using c), decide_eq_true c]
  · rw [decide_eq_false c]
    exact Nat.testBit_lt_two_pow (Nat.lt_of_lt_of_le hs (Nat.pow_le_pow_right (by omega) (by omega)))
theorem card_all (n : Nat) : card n (2 ^ n - 1) = n := by
  unfold card cnt
  have := List.countP_eq_length (l := List.range n) (p := fun a => (2 ^ n - 1).testBit a)
  rw [List.length_range] at this
  refine this.2 fun a ha => ?_
  rw [Nat.testBit_two_pow_sub_one]
  simpa using ha
theorem or_lt {n s a : Nat} (hs : s < 2 ^ n) (ha : a < n) : s ||| 2 ^ a < 2 ^ n := Nat.or_lt_two_pow hs (Nat.pow_lt_pow_right (by omega) ha)
theorem or_gt {s a : Nat} (h : s.testBit a = false) : s < s ||| 2 ^ a := by
  have h1 : s ≤ s ||| 2 ^ a := Nat.left_le_or
  rcases Nat.lt_or_eq_of_le h1 with h2 | h2
  · exact h2
  · exfalso
    have : (s ||| 2 ^ a).testBit a = true := by rw [Nat.testBit_or, Nat.testBit_two_pow]; simp
    rw [← h2, h] at this
    cases this
/-- The ways on from a set and its last one. -/
def ways (n : Nat) (f : Nat → Nat → Bool) (s v : Nat) : Int := waysD n f (n - card n s) s v
def nexts (n : Nat) (f : Nat → Nat → Bool) (s v : Nat) : List Nat := (List.range n).filter fun a => f v a && !s.testBit a
theorem ways_step {n : Nat} {f : Nat → Nat → Bool} {s v : Nat} (h : card n s < n) : ways n f s v = ((nexts n f s v).map fun a => ways n f (s ||| 2 ^ a) a).sum := by
  obtain ⟨d, hd⟩ : ∃ d, n - card n s = d + 1 := ⟨n - card n s - 1, by omega⟩
  unfold ways
  rw [hd]
  simp only [waysD]
  congr 1
  apply List.map_congr_left
  intro a ha
  have ha2 := List.mem_filter.1 ha
  simp only [List.mem_range, Bool.and_eq_true, Bool.not_eq_true'] at ha2
  rw [card_next ha2.1 ha2.2.2]
  congr 1
  omega
theorem ways_last {n : Nat} {f : Nat → Nat → Bool} {v : Nat} : ways n f (2 ^ n - 1) v = if f v 0 = true then 1 else 0 := by
  unfold ways
  rw [card_all, Nat.sub_self]; rfl
theorem nexts_full {n : Nat} {f : Nat → Nat → Bool} {v : Nat} : nexts n f (2 ^ n - 1) v = [] := by
  unfold nexts
  rw [List.filter_eq_nil_iff]
  intro a ha
  rw [Nat.testBit_two_pow_sub_one, decide_eq_true (by simpa using ha)]
  simp

/-! Sums over a row and over a table, each number times its weight. -/
def dotL : List Int → (Nat → Int) → Int
  | [], _ => 0
  | x :: t, w => x * w 0 + dotL t (fun i => w (i + 1))
def dotT : List (List Int) → (Nat → Nat → Int) → Int
  | [], _ => 0
  | r :: t, w => dotL r (w 0) + dotT t (fun i => w (i + 1))
theorem dotL_congr : ∀ (r : List Int) (w w' : Nat → Int), (∀ i, i < r.length → w i = w' i) → dotL r w = dotL r w'
  | [], _, _, _ => rfl
  | x :: t, w, w', h => by
    simp only [dotL]
    rw [h 0 (by simp), dotL_congr t _ _ (fun i hi => h (i + 1) (by simp; omega))]
theorem dotL_zero : ∀ (r : List Int) (w : Nat → Int), (∀ i, i < r.length → w i = 0) → dotL r w = 0
  | [], _, _ => rfl
  | x :: t, w, h => by
    simp only [dotL]
    rw [h 0 (by simp), dotL_zero t _ (fun i hi => h (i + 1) (by simp; omega))]
    simp
theorem dotL_none : ∀ (n : Nat) (w : Nat → Int), dotL (List.replicate n 0) w = 0
  | 0, _ => rfl
  | n + 1, w => by
    simp only [List.replicate_succ, dotL]
    rw [dotL_none n]; simp
theorem dotL_set : ∀ (r : List Int) (i : Nat) (hi : i < r.length) (y : Int) (w : Nat → Int), dotL (r.set i y) w = dotL r w + (y - r[i]) * w i
  | x :: t, 0, _, y, w => by
    simp only [List.set_cons_zero, dotL, List.getElem_cons_zero, Int.sub_mul]
    omega
  | x :: t, i + 1, hi, y, w => by
    simp only [List.set_cons_succ, dotL, List.getElem_cons_succ]
    rw [dotL_set t i (by simpa using hi) y]
    omega
theorem dotL_change : ∀ (r : List Int) (i : Nat) (hi : i < r.length) (w w' : Nat → Int), (∀ j, j ≠ i → w j = w' j) → dotL r w = dotL r w' + r[i] * (w i - w' i)
  | x :: t, 0, _, w, w', h => by
    simp only [dotL, List.getElem_cons_zero, Int.mul_sub]
    rw [dotL_congr t (fun i => w (i + 1)) (fun i => w' (i + 1)) (fun i _ => h (i + 1) (by omega))]
    omega
  | x :: t, i + 1, hi, w, w', h => by
    simp only [dotL, List.getElem_cons_succ]
    rw [dotL_change t i (by simpa using hi) (fun i => w (i + 1)) (fun i => w' (i + 1)) (fun j hj => h (j + 1) (by omega)), h 0 (by omega)]
    omega
theorem dotT_congr : ∀ (K : List (List Int)) (w w' : Nat → Nat → Int), (∀ s, (hs : s < K.length) → dotL K[s] (w s) = dotL K[s] (w' s)) → dotT K w = dotT K w'
  | [], _, _, _ => rfl
  | r :: t, w, w', h => by
    simp only [dotT]
    rw [dotT_congr t _ (fun i => w' (i + 1)) (fun s hs => h (s + 1) (by simpa using hs))]
    have := h 0 (by simp)
    simp only [List.getElem_cons_zero] at this
    rw [this]
theorem dotT_set : ∀ (K : List (List Int)) (s : Nat) (hs : s < K.length) (r : List Int) (w : Nat → Nat → Int), dotT (K.set s r) w = dotT K w + (dotL r (w s) - dotL K[s] (w s))
  | x :: t, 0, _, r, w => by
    simp only [List.set_cons_zero, dotT, List.getElem_cons_zero]
    omega
  | x :: t, s + 1, hs, r, w => by
    simp only [List.set_cons_succ, dotT, List.getElem_cons_succ]
    rw [dotT_set t s (by simpa using hs) r]
    omega
theorem dotT_change : ∀ (K : List (List Int)) (s : Nat) (hs : s < K.length) (w w' : Nat → Nat → Int), (∀ j, j ≠ s → w j = w' j) → dotT K w = dotT K w' + (dotL K[s] (w s) - dotL K[s] (w' s))
  | x :: t, 0, _, w, w', h => by
    simp only [dotT, List.getElem_cons_zero]
    rw [dotT_congr t (fun i => w (i + 1)) (fun i => w' (i + 1)) (fun i _ => by rw [h (i + 1) (by omega)])]
    omega
  | x :: t, s + 1, hs, w, w', h => by
    simp only [dotT, List.getElem_cons_succ]
    rw [dotT_change t s (by simpa using hs) (fun i => w (i + 1)) (fun i => w' (i + 1)) (fun j hj => h (j + 1) (by omega)), h 0 (by omega)]
    omega
theorem dotT_zero : ∀ (K : List (List Int)) (w : Nat → Nat → Int), (∀ s, (hs : s < K.length) → dotL K[s] (w s) = 0) → dotT K w = 0
  | [], _, _ => rfl
  | r :: t, w, h => by
    simp only [dotT]
    rw [dotT_zero t _ (fun s hs => h (s + 1) (by simpa using hs))]
    have := h 0 (by simp)
    simp only [List.getElem_cons_zero] at this
    rw [this]; rfl
theorem dotT_only : ∀ (K : List (List Int)) (s : Nat) (hs : s < K.length) (w : Nat → Nat → Int), (∀ j, (hj : j < K.length) → j ≠ s → dotL K[j] (w j) = 0) → dotT K w = dotL K[s] (w s)
  | r :: t, 0, _, w, h => by
    simp only [dotT, List.getElem_cons_zero]
    rw [dotT_zero t _ (fun s hs => h (s + 1) (by simpa using hs) (by omega))]
    omega
  | r :: t, s + 1, hs, w, h => by
    simp only [dotT, List.getElem_cons_succ]
    rw [dotT_only t s (by simpa using hs) (fun i => w (i + 1)) (fun j hj hne => h (j + 1) (by simpa using hj) (by omega))]
    have := h 0 (by simp) (by omega)
    simp only [List.getElem_cons_zero] at this
    rw [this]; omega

/-! Alike but for whole turns of a word. -/
def Alike (a b : Int) : Prop := ∃ z : Int, a = b + 18446744073709551616 * z
theorem Alike.refl (a : Int) : Alike a a := ⟨0, by omega⟩
theorem Alike.trans {a b c : Int} (h : Alike a b) (k : Alike b c) : Alike a c := by
  obtain ⟨y, hy⟩ := h; obtain ⟨z, hz⟩ := k
  exact ⟨y + z, by omega⟩
theorem Alike.symm {a b : Int} (h : Alike a b) : Alike b a := by
  obtain ⟨y, hy⟩ := h
  exact ⟨-y, by omega⟩
theorem Alike.add {a b c d : Int} (h : Alike a b) (k : Alike c d) : Alike (a + c) (b + d) := by
  obtain ⟨y, hy⟩ := h; obtain ⟨z, hz⟩ := k
  exact ⟨y + z, by omega⟩
theorem Alike.mul {a b : Int} (h : Alike a b) (c : Int) : Alike (a * c) (b * c) := by
  obtain ⟨y, hy⟩ := h
  exact ⟨y * c, by rw [hy, Int.add_mul, Int.mul_assoc]⟩
theorem Alike.wrap (a : Int) : Alike (wrap64 a) a := ⟨-((a + 9223372036854775808) / 18446744073709551616), by unfold wrap64; omega⟩
theorem Alike.eq {a b : Int} (h : Alike a b) (h0 : -9223372036854775808 ≤ a) (h1 : a < 9223372036854775808) (h2 : 0 ≤ b) (h3 : b < 9223372036854775808) : a = b := by
  obtain ⟨z, hz⟩ := h
  omega
/-- One number grows. -/
theorem dotT_push {K : List (List Int)} {s a : Nat} (hs : s < K.length) (ha : a < K[s].length) (x : Int) (w : Nat → Nat → Int) : Alike (dotT (K.set s (K[s].set a (wrap64 (K[s][a] + x)))) w) (dotT K w + x * w s a) := by
  rw [dotT_set K s hs, dotL_set K[s] a ha]
  have h1 : Alike ((wrap64 (K[s][a] + x) - K[s][a]) * w s a) (x * w s a) := by
    refine Alike.mul ?_ _
    obtain ⟨z, hz⟩ := Alike.wrap (K[s][a] + x)
    exact ⟨z, by omega⟩
  obtain ⟨z, hz⟩ := h1
  exact ⟨z, by omega⟩

/-- The ways on, but for those that have been gone. -/
def left (n : Nat) (f : Nat → Nat → Bool) (x y s v : Nat) : Int := if (s < x ∨ (s = x ∧ v < y)) ∧ card n s < n then 0 else ways n f s v
theorem left_start (n : Nat) (f : Nat → Nat → Bool) : left n f 0 0 = ways n f := by
  funext s v
  unfold left
  rw [if_neg (by omega)]
/-- A table of a number for each set and each person. -/
def Square (n : Nat) (K : List (List Int)) : Prop := K.length = 2 ^ n ∧ ∀ s, (hs : s < K.length) → K[s].length = n
theorem Square.set {n : Nat} {K : List (List Int)} (h : Square n K) {s : Nat} {r : List Int} (hr : r.length = n) : Square n (K.set s r) := by
  refine ⟨by rw [List.length_set]; exact h.1, fun j hj => ?_⟩
  rw [List.length_set] at hj
  rw [List.getElem_set]
  split
  · exact hr
  · exact h.2 j hj
theorem left_row {n : Nat} {f : Nat → Nat → Bool} {K : List (List Int)} (h : Square n K) (x : Nat) : dotT K (left n f x n) = dotT K (left n f (x + 1) 0) := by
  refine dotT_congr K _ _ (fun s hs => dotL_congr _ _ _ (fun v hv => ?_))
  rw [h.2 s hs] at hv
  unfold left
  by_cases c : (s < x ∨ (s = x ∧ v < n)) ∧ card n s < n
  · rw [if_pos c, if_pos (by omega)]
  · rw [if_neg c, if_neg (by omega)]
theorem left_end {n : Nat} {f : Nat → Nat → Bool} {K : List (List Int)} (h : Square n K) : ∃ hs : 2 ^ n - 1 < K.length, dotT K (left n f (2 ^ n) 0) = dotL K[2 ^ n - 1] (fun v => if f v 0 = true then 1 else 0) := by
  have hp : 0 < 2 ^ n := Nat.pow_pos (by omega)
  have hs : 2 ^ n - 1 < K.length := by rw [h.1]; omega
  refine ⟨hs, ?_⟩
  rw [dotT_only K (2 ^ n - 1) hs _ (fun j hj hne => dotL_zero _ _ (fun v _ => ?_))]
  · refine dotL_congr _ _ _ (fun v _ => ?_)
    unfold left
    rw [if_neg (by rw [card_all]; omega), ways_last]
  · rw [h.1] at hj
    unfold left
    rw [if_pos]
    refine ⟨Or.inl hj, ?_⟩
    rcases Nat.lt_or_eq_of_le (card_le n j) with h1 | h1
    · exact h1
    · exact absurd (card_full hj h1) hne
/-- One place gone. -/
theorem left_step {n : Nat} {f : Nat → Nat → Bool} {K : List (List Int)} (h : Square n K) {x y : Nat} (hx : x < K.length) (hy : y < K[x].length) : dotT K (left n f x y) = dotT K (left n f x (y + 1)) + K[x][y] * ((nexts n f x y).map fun a => left n f x (y + 1) (x ||| 2 ^ a) a).sum := by
  have hx2 : x < 2 ^ n := by rw [← h.1]; exact hx
  have e1 : ∀ j, j ≠ x → left n f x y j = left n f x (y + 1) j := by
    intro j hj
    funext v
    unfold left
    by_cases c : (j < x ∨ (j = x ∧ v < y)) ∧ card n j < n
    · rw [if_pos c, if_pos (by omega)]
    · rw [if_neg c, if_neg (by omega)]
  have e2 : ∀ v, v ≠ y → left n f x y x v = left n f x (y + 1) x v := by
    intro v hv
    unfold left
    by_cases c : (x < x ∨ (x = x ∧ v < y)) ∧ card n x < n
    · rw [if_pos c, if_pos (by omega)]
    · rw [if_neg c, if_neg (by omega)]
  rw [dotT_change K x hx _ _ e1, dotL_change K[x] y hy _ _ e2]
  have e3 : left n f x y x y - left n f x (y + 1) x y = ((nexts n f x y).map fun a => left n f x (y + 1) (x ||| 2 ^ a) a).sum := by
    rcases Nat.lt_or_eq_of_le (card_le n x) with c | c
    · have e4 : left n f x y x y = ways n f x y := by unfold left; rw [if_neg (by omega)]
      have e5 : left n f x (y + 1) x y = 0 := by unfold left; rw [if_pos ⟨Or.inr ⟨rfl, by omega⟩, c⟩]
      rw [e4, e5, ways_step c, Int.sub_zero]
      congr 1
      apply List.map_congr_left
      intro a ha
      have ha2 := List.mem_filter.1 ha
      simp only [List.mem_range, Bool.and_eq_true, Bool.not_eq_true'] at ha2
      have := or_gt ha2.2.2
      unfold left
      rw [if_neg (by omega)]
    · have ex := card_full hx2 c
      rw [ex, nexts_full]
      unfold left
      rw [card_all, if_neg (by omega), if_neg (by omega)]
      simp
  rw [← e3]
  omega
end Go.Proofs.YtdkmkcgghhncdaaDoor.Plain

/- The program's numbers of rows: the table of ways. No condition but that there are at most nine people. -/
namespace Go.Proofs.YtdkmkcgghhncdaaDoor.Plain
open Go.RowKit Go.Proofs.YtdkmkcgghhncdaaDoorW.PrintWords Go.Proofs.YtdkmkcgghhncdaaDoorW.PrintLast
set_option linter.unusedVariables false
open Q

theorem wraps_i64 (n : Int) (h0 : 0 ≤ n) (h1 : n < 2 ^ 63) : IntKind.i64.wrap n = n := by
  have : IntKind.i64.wrap n = wrap64 n := i64_w n
  rw [this]; unfold wrap64; omega
theorem or64 {a b : Nat} (ha : a < 2 ^ 63) (hb : b < 2 ^ 63) : Go.bits .or .i64 (a : Int) (b : Int) = ((a ||| b : Nat) : Int) := (bits_nat .i64 63 (by decide) wraps_i64 a b ha hb).2
theorem shl64 {b : Nat} (hb : b < 63) : shl .i64 1 (b : Int) = ((2 ^ b : Nat) : Int) := by
  unfold shl
  have h1 : min ((b : Int)).toNat IntKind.i64.bits = b := by
    rw [Int.toNat_natCast]
    exact Nat.min_eq_left (by show b ≤ 64; omega)
  rw [h1, Int.one_mul, wraps_i64]
  · simp
  · exact Int.pow_nonneg (by decide)
  · have : (2 : Nat) ^ b < 2 ^ 63 := Nat.pow_lt_pow_right (by omega) hb
    exact_mod_cast this
theorem rdK_at {K : List (List Int)} {i : Nat} (h : i < K.length) : rd_L6 K (i : Int) = K[i] := by
  simp [rd_L6, List.getD, h]
theorem pow9 {n : Nat} (hn : n ≤ 9) : 2 ^ n ≤ 512 := by
  have := Nat.pow_le_pow_right (show 0 < 2 by omega) hn
  omega
theorem mask_self {n x : Nat} (hx : x < 2 ^ n) : maskOf (fun b => x.testBit b) n = x := by
  apply Nat.eq_of_testBit_eq
  intro i
  rw [maskOf_bit]
  by_cases c : i < n
  · rw [decide_eq_true c, Bool.true_and]
  · rw [decide_eq_false c, Bool.false_and]
    exact (Nat.testBit_lt_two_pow (Nat.lt_of_lt_of_le hx (Nat.pow_le_pow_right (by omega) (by omega)))).symm
theorem andNot16_w (f g : Nat → Bool) {n : Nat} (hn : n ≤ 16) : Go.bits .andNot .u16 ((maskOf f n : Nat) : Int) ((maskOf g n : Nat) : Int) = ((maskOf (fun b => f b && !g b) n : Nat) : Int) := by
  have ha := mask16 (f := f) hn
  have hb := mask16 (f := g) hn
  have e : (BitVec.ofNat 16 (maskOf f n) &&& ~~~BitVec.ofNat 16 (maskOf g n)).toNat = maskOf (fun b => f b && !g b) n := by
    apply Nat.eq_of_testBit_eq
    intro j
    rw [BitVec.testBit_toNat, BitVec.getLsbD_and, BitVec.getLsbD_not, BitVec.getLsbD_ofNat, BitVec.getLsbD_ofNat, maskOf_bit, maskOf_bit, maskOf_bit]
    by_cases c : j < n
    · have c2 : j < 16 := by omega
      simp [c, c2]
    · simp [c]
  show IntKind.u16.wrap (((BitVec.ofInt 16 ((maskOf f n : Nat) : Int) &&& ~~~BitVec.ofInt 16 ((maskOf g n : Nat) : Int)).toNat : Nat) : Int) = _
  rw [BitVec.ofInt_natCast, BitVec.ofInt_natCast, e]
  have := mask16 (f := fun b => f b && !g b) hn
  exact wraps_u16 _ (by omega) (by omega)
/-- The friends of a person outside a set, listed. -/
theorem listed_next {n : Nat} (hn : n ≤ 9) (f : Nat → Nat → Bool) {x y : Nat} (hx : x < 2 ^ n) (hy : y < n) : Ev (fun k => impl_listed.f k (Go.bits .andNot .u16 (rd (tabF n f) (y : Int)) (IntKind.u16.wrap (x : Int)))) ((nexts n f x y).map fun b : Nat => (b : Int)) := by
  have hp := pow9 hn
  rw [wraps_u16 (x : Int) (by omega) (by omega), tabF_get hy]
  have e := andNot16_w (f y) (fun b => x.testBit b) (n := n) (by omega)
  rw [mask_self hx] at e
  rw [e]
  have h := listed_ev (n := n) (by omega) (fun b => f y b && !x.testBit b)
  have e2 : posL (fun b => f y b && !x.testBit b) n = (nexts n f x y).map fun b : Nat => (b : Int) := by
    unfold posL posFrom nexts
    rw [List.drop_zero]
  rw [← e2]
  exact h
/-- The numbers of one set and last one, added to those of the sets with one more. -/
theorem push_ev {n : Nat} (hn : n ≤ 9) {x y : Nat} (hx : x < 2 ^ n) (hy : y < n) (nv : Int) (row : List Int) (w : Nat → Nat → Int) (T : List Int) (x46 : Int) (R : List Int → Prop) (L : List Nat) (hL : ∀ a ∈ L, a < n) (hl : L.length ≤ n) :
    ∀ d i, L.length - i = d → i ≤ L.length → ∀ K : List (List Int), Square n K →
      (∀ K' : List (List Int), Square n K' → Alike (dotT K' w) (dotT K w + nv * ((L.drop i).map fun a => w (x ||| 2 ^ a) a).sum) → ∃ r, Ev (fun k => impl_table_countRows.l3 k T K' (x : Int) x46 (x : Int) row (row.length : Int) ((y + 1 : Nat) : Int)) r ∧ R r) →
      ∃ r, Ev (fun k => impl_table_countRows.l4 k T K (x : Int) nv x46 (x : Int) row (row.length : Int) (y : Int) (L.map fun b : Nat => (b : Int)) (L.length : Int) (i : Int)) r ∧ R r := by
  have hp := pow9 hn
  intro d
  induction d with
  | zero =>
    intro i hd hi K hK hnext
    obtain rfl : i = L.length := by omega
    obtain ⟨r, hr, hR⟩ := hnext K hK (by rw [List.drop_length]; simp only [List.map_nil, List.sum_nil, Int.mul_zero, Int.add_zero]; exact Alike.refl _)
    refine ⟨r, Ev.step (f := fun k => impl_table_countRows.l3 k T K (x : Int) x46 (x : Int) row (row.length : Int) ((y + 1 : Nat) : Int)) (fun k => ?_) hr, hR⟩
    simp only [impl_table_countRows.l4]
    rw [if_neg (by omega), succ_cast hy (by omega)]
  | succ d ih =>
    intro i hd hi K hK hnext
    have hil : i < L.length := by omega
    have han : L[i] < n := hL _ (List.getElem_mem hil)
    have hs : x ||| 2 ^ L[i] < K.length := by rw [hK.1]; exact or_lt hx han
    have hrow : K[x ||| 2 ^ L[i]].length = n := hK.2 _ hs
    have ha : L[i] < K[x ||| 2 ^ L[i]].length := by rw [hrow]; exact han
    have hlm : i < (L.map fun b : Nat => (b : Int)).length := by rw [List.length_map]; exact hil
    have hpl : 2 ^ L[i] < 2 ^ 9 := Nat.pow_lt_pow_right (by omega) (by omega)
    have e1 : rd (L.map fun b : Nat => (b : Int)) (i : Int) = ((L[i] : Nat) : Int) := by rw [rd_at hlm, List.getElem_map]
    have e2 : Go.bits .or .i64 (x : Int) (shl .i64 1 ((L[i] : Nat) : Int)) = ((x ||| 2 ^ L[i] : Nat) : Int) := by
      rw [shl64 (by omega), or64 (by omega) (by omega)]
    have hSq : Square n (K.set (x ||| 2 ^ L[i]) (K[x ||| 2 ^ L[i]].set L[i] (wrap64 (K[x ||| 2 ^ L[i]][L[i]] + nv)))) := hK.set (by rw [List.length_set]; exact hrow)
    obtain ⟨r, hr, hR⟩ := ih (i + 1) (by omega) (by omega) _ hSq (fun K' hK' hA => hnext K' hK' (hA.trans (by
      rw [List.drop_eq_getElem_cons hil, List.map_cons, List.sum_cons, Int.mul_add, ← Int.add_assoc]
      exact (dotT_push hs ha nv w).add (Alike.refl _))))
    refine ⟨r, Ev.step (f := fun k => impl_table_countRows.l4 k T (K.set (x ||| 2 ^ L[i]) (K[x ||| 2 ^ L[i]].set L[i] (wrap64 (K[x ||| 2 ^ L[i]][L[i]] + nv)))) (x : Int) nv x46 (x : Int) row (row.length : Int) (y : Int) (L.map fun b : Nat => (b : Int)) (L.length : Int) ((i + 1 : Nat) : Int)) (fun k => ?_) hr, hR⟩
    simp only [impl_table_countRows.l4]
    rw [e1, e2, rdK_at hs, rd_at ha, if_pos (by omega), if_pos (by omega), if_pos (by omega), if_pos (by omega), if_pos (by omega), if_pos (by omega), if_pos (by omega), Int.toNat_natCast, Int.toNat_natCast, succ_cast hil (by omega)]
/-- All last ones of one set. -/
theorem last_ev {n : Nat} (hn : n ≤ 9) (f : Nat → Nat → Bool) {x : Nat} (hx : x < 2 ^ n) (row : List Int) (hrow : row.length = n) (C x46 : Int) (R : List Int → Prop)
    (hgo : ∀ K : List (List Int), Square n K → Alike (dotT K (left n f (x + 1) 0)) C → ∃ r, Ev (fun k => impl_table_countRows.l2 k (tabF n f) K x46 ((x + 1 : Nat) : Int)) r ∧ R r) :
    ∀ d y, n - y = d → y ≤ n → ∀ K : List (List Int), Square n K → Alike (dotT K (left n f x y)) C → ∃ r, Ev (fun k => impl_table_countRows.l3 k (tabF n f) K (x : Int) x46 (x : Int) row (row.length : Int) (y : Int)) r ∧ R r := by
  have hp := pow9 hn
  intro d
  induction d with
  | zero =>
    intro y hd hy K hK hA
    obtain rfl : y = n := by omega
    rw [left_row hK] at hA
    obtain ⟨r, hr, hR⟩ := hgo K hK hA
    refine ⟨r, Ev.step (f := fun k => impl_table_countRows.l2 k (tabF y f) K x46 ((x + 1 : Nat) : Int)) (fun k => ?_) hr, hR⟩
    simp only [impl_table_countRows.l3]
    rw [if_neg (by omega), succ_cast (show x < 2 ^ y from hx) (by omega)]
  | succ d ih =>
    intro y hd hy K hK hA
    have hyn : y < n := by omega
    have hxK : x < K.length := by rw [hK.1]; exact hx
    have hyK : y < K[x].length := by rw [hK.2 x hxK]; exact hyn
    rw [left_step hK hxK hyK] at hA
    have hT : (tabF n f).length = n := tabF_length _ _
    by_cases c : K[x][y] = 0
    · rw [c, Int.zero_mul, Int.add_zero] at hA
      obtain ⟨r, hr, hR⟩ := ih (y + 1) (by omega) (by omega) K hK hA
      refine ⟨r, Ev.step (f := fun k => impl_table_countRows.l3 k (tabF n f) K (x : Int) x46 (x : Int) row (row.length : Int) ((y + 1 : Nat) : Int)) (fun k => ?_) hr, hR⟩
      simp only [impl_table_countRows.l3]
      rw [rdK_at hxK, rd_at hyK, if_pos (by omega), if_pos (by omega), if_pos (by omega), if_pos c, succ_cast hyn (by omega)]
    · have hL : ∀ a ∈ nexts n f x y, a < n := fun a ha => by simpa using (List.mem_filter.1 ha).1
      have hl : (nexts n f x y).length ≤ n := by
        have := List.length_filter_le (fun a => f y a && !x.testBit a) (List.range n)
        rw [List.length_range] at this
        exact this
      obtain ⟨r, hr, hR⟩ := push_ev hn hx hyn K[x][y] row (left n f x (y + 1)) (tabF n f) x46 R (nexts n f x y) hL hl (nexts n f x y).length 0 (by omega) (by omega) K hK (fun K' hK' hB => ih (y + 1) (by omega) (by omega) K' hK' (hB.trans hA))
      refine ⟨r, Ev.step (f := fun k => (impl_listed.f k (Go.bits .andNot .u16 (rd (tabF n f) (y : Int)) (IntKind.u16.wrap (x : Int)))).bind fun t => impl_table_countRows.l4 k (tabF n f) K (x : Int) K[x][y] x46 (x : Int) row (row.length : Int) (y : Int) t (t.length : Int) 0) (fun k => ?_) ?_, hR⟩
      · simp only [impl_table_countRows.l3]
        rw [rdK_at hxK, rd_at hyK, if_pos (by omega), if_pos (by omega), if_pos (by omega), if_neg c, if_pos (by omega)]
      · refine Ev.bind (listed_next hn f hx hyn) ?_
        rw [List.length_map]
        exact hr
/-- All sets. -/
theorem sets_ev {n : Nat} (hn : n ≤ 9) (f : Nat → Nat → Bool) (C : Int) : ∀ d x, 2 ^ n - x = d → x ≤ 2 ^ n → ∀ K : List (List Int), Square n K → Alike (dotT K (left n f x 0)) C → ∃ r, Ev (fun k => impl_table_countRows.l2 k (tabF n f) K ((2 ^ n : Nat) : Int) (x : Int)) r ∧ r.length = n ∧ Alike (dotL r (fun v => if f v 0 = true then 1 else 0)) C := by
  have hp := pow9 hn
  have h0 : 0 < 2 ^ n := Nat.pow_pos (by omega)
  intro d
  induction d with
  | zero =>
    intro x hd hx K hK hA
    obtain rfl : x = 2 ^ n := by omega
    obtain ⟨hs, he⟩ := left_end (f := f) hK
    rw [he] at hA
    refine ⟨K[2 ^ n - 1], Ev.step (f := fun _ => some K[2 ^ n - 1]) (fun k => ?_) (Ev.now _), hK.2 _ hs, hA⟩
    simp only [impl_table_countRows.l2]
    have e : wrap64 ((K.length : Int) - 1) = ((2 ^ n - 1 : Nat) : Int) := by rw [hK.1, pred_cast (by omega) (by omega)]
    rw [if_neg (by omega), e, rdK_at hs, if_pos (by omega), if_pos (by omega)]
  | succ d ih =>
    intro x hd hx K hK hA
    have hx2 : x < 2 ^ n := by omega
    have hxK : x < K.length := by rw [hK.1]; exact hx2
    obtain ⟨r, hr, hR⟩ := last_ev hn f hx2 K[x] (hK.2 x hxK) C ((2 ^ n : Nat) : Int) (fun r => r.length = n ∧ Alike (dotL r (fun v => if f v 0 = true then 1 else 0)) C) (fun K' hK' hB => ih (x + 1) (by omega) (by omega) K' hK' hB) n 0 (by omega) (by omega) K hK hA
    refine ⟨r, Ev.step (f := fun k => impl_table_countRows.l3 k (tabF n f) K (x : Int) ((2 ^ n : Nat) : Int) (x : Int) K[x] (K[x].length : Int) 0) (fun k => ?_) hr, hR⟩
    simp only [impl_table_countRows.l2]
    rw [rdK_at hxK, if_pos (by omega), if_pos (by omega), if_pos (by omega)]
/-- The numbers of rows from the first person on, by the last one: as many as there are rounds go back to the first. -/
theorem countRows_ev {n : Nat} (hn : n ≤ 9) (h1 : 1 ≤ n) (f : Nat → Nat → Bool) : ∃ r, Ev (fun k => impl_table_countRows.f k (tabF n f) 1) r ∧ r.length = n ∧ Alike (dotL r (fun v => if f v 0 = true then 1 else 0)) ((rounds n f).length : Int) := by
  have hp := pow9 hn
  have hT : (tabF n f).length = n := tabF_length _ _
  have h2 : 2 ≤ 2 ^ n := by
    have := Nat.pow_le_pow_right (show 0 < 2 by omega) h1
    omega
  have hSq0 : Square n (List.replicate (2 ^ n) (List.replicate n 0)) := ⟨by simp, fun s hs => by simp⟩
  have hS1 : (1 : Nat) < (List.replicate (2 ^ n) (List.replicate n (0 : Int))).length := by simp; omega
  have e11 : (List.replicate (2 ^ n) (List.replicate n (0 : Int)))[1] = List.replicate n 0 := by simp
  have hSq : Square n ((List.replicate (2 ^ n) (List.replicate n 0)).set 1 ((List.replicate n 0).set 0 1)) := hSq0.set (by simp)
  have hdot : dotT ((List.replicate (2 ^ n) (List.replicate n 0)).set 1 ((List.replicate n 0).set 0 1)) (left n f 0 0) = ((rounds n f).length : Int) := by
    rw [dotT_set _ 1 hS1, e11, dotL_set _ 0 (by simp; omega), dotT_zero _ _ (fun s hs => by rw [List.getElem_replicate]; exact dotL_none n _), dotL_none, left_start]
    have hc : card n 1 = 1 := by
      have h := cnt_one (f := fun _ => false) (g := fun a => (1 : Nat).testBit a) (a := 0) (n := n) h1 rfl (fun b _ => by
        rw [show (1 : Nat) = 2 ^ 0 from rfl, Nat.testBit_two_pow]; simp [eq_comm])
      have hz : cnt (fun _ => false) n = 0 := by unfold cnt; simp
      rw [hz] at h
      exact h
    have hw := ways_whole n f (n - 1) [0] 1 (by simp) (fun a _ => by
      rw [show (1 : Nat) = 2 ^ 0 from rfl, Nat.testBit_two_pow, Bool.eq_iff_iff]
      simp [eq_comm])
    unfold ways rounds
    rw [hc]
    rw [show ([0] : List Nat).getLast (by simp) = 0 from rfl] at hw
    rw [hw]
    simp
  obtain ⟨r, hr, hR⟩ := sets_ev hn f ((rounds n f).length : Int) (2 ^ n) 0 (by omega) (by omega) _ hSq (by rw [hdot]; exact Alike.refl _)
  refine ⟨r, ?_, hR⟩
  unfold impl_table_countRows.f
  have e1 : shl .i64 1 (((tabF n f).length : Nat) : Int) = ((2 ^ n : Nat) : Int) := by rw [hT, shl64 (by omega)]
  rw [e1, Int.toNat_natCast]
  refine ev_if (fun _ => ?_) (fun c => absurd (by omega) c)
  refine ev_if (fun _ => ?_) (fun c => absurd (by omega) c)
  refine ev_bind0 rfl ?_
  rw [List.length_replicate]
  -- the fill
  have fill := ev_up (n := 2 ^ n) (loop := fun k i => impl_table_countRows.l0 k (tabF n f) 1 (List.replicate i (List.replicate n 0) ++ List.replicate (2 ^ n - i) []) ((2 ^ n : Nat) : Int) (i : Int)) (r := fun _ => r)
    (by
      refine Ev.step (f := fun k => (impl_listed.f k 1).bind fun t => impl_table_countRows.l1 k (tabF n f) (List.replicate (2 ^ n) (List.replicate n 0)) t (t.length : Int) 0) (fun k => ?_) ?_
      · simp only [impl_table_countRows.l0]
        rw [if_neg (by omega), Nat.sub_self, List.replicate_zero, List.append_nil]
      · have hl := listed_ev (n := n) (by omega) (fun b => decide (b = 0))
        rw [← mask_one (show 0 < n by omega)] at hl
        have hpos : posL (fun b => decide (b = 0)) n = [0] := by
          unfold posL
          rw [posFrom_step _ (show 0 < n by omega), if_pos (by simp)]
          have : posFrom (fun b => decide (b = 0)) n (0 + 1) = [] := by
            unfold posFrom
            rw [List.map_eq_nil_iff, List.filter_eq_nil_iff]
            intro a ha
            obtain ⟨i, hi, e⟩ := List.getElem_of_mem ha
            rw [List.getElem_drop, List.getElem_range] at e
            simp; omega
          rw [this]; rfl
        rw [hpos] at hl
        refine Ev.bind hl ?_
        have e0 : shl .i64 1 0 = ((1 : Nat) : Int) := shl64 (b := 0) (by omega)
        have er : rd_L6 (List.replicate (2 ^ n) (List.replicate n (0 : Int))) ((1 : Nat) : Int) = List.replicate n 0 := by rw [rdK_at hS1, e11]
        refine Ev.step (f := fun k => impl_table_countRows.l1 k (tabF n f) ((List.replicate (2 ^ n) (List.replicate n 0)).set 1 ((List.replicate n 0).set 0 1)) [0] 1 1) (fun k => ?_) ?_
        · simp only [impl_table_countRows.l1]
          have er0 : rd ([0] : List Int) 0 = 0 := rfl
          rw [er0, e0, er]
          simp only [List.length_cons, List.length_nil, List.length_replicate]
          rw [if_pos (by omega), if_pos (by omega), if_pos (by omega), if_pos (by omega), if_pos (by omega), if_pos (by omega), if_pos (by omega), show wrap64 ((0 : Int) + 1) = 1 by unfold wrap64; omega]
          rfl
        · refine Ev.step (f := fun k => impl_table_countRows.l2 k (tabF n f) ((List.replicate (2 ^ n) (List.replicate n 0)).set 1 ((List.replicate n 0).set 0 1)) ((2 ^ n : Nat) : Int) 0) (fun k => ?_) hr
          simp only [impl_table_countRows.l1]
          rw [if_neg (by omega), List.length_set, List.length_replicate])
    (fun i hi ih => by
      refine Ev.step (f := fun k => impl_table_countRows.l0 k (tabF n f) 1 (List.replicate (i + 1) (List.replicate n 0) ++ List.replicate (2 ^ n - (i + 1)) []) ((2 ^ n : Nat) : Int) ((i + 1 : Nat) : Int)) (fun k => ?_) ih
      simp only [impl_table_countRows.l0]
      have hlen : (List.replicate i (List.replicate n (0 : Int)) ++ List.replicate (2 ^ n - i) []).length = 2 ^ n := by simp; omega
      rw [hlen, hT, if_pos (by omega), if_pos (by omega), Int.toNat_natCast, if_pos (by omega), if_pos (by omega), if_pos (by omega), Int.toNat_natCast, succ_cast hi (by omega)]
      congr 1
      rw [List.set_append_right _ _ (by simp), List.length_replicate, Nat.sub_self, show 2 ^ n - i = (2 ^ n - (i + 1)) + 1 by omega, List.replicate_succ, List.set_cons_zero, List.replicate_succ', List.append_assoc]
      rfl) 0 (by omega)
  rw [Nat.sub_zero, List.replicate_zero, List.nil_append] at fill
  exact fill
end Go.Proofs.YtdkmkcgghhncdaaDoor.Plain
/- The program's CountSeatings returns what the reference's returns, for all arguments. No condition. -/
namespace Go.Proofs.YtdkmkcgghhncdaaDoor.Pure
open Go.RowKit Go.Proofs.YtdkmkcgghhncdaaDoorW.PrintWords Go.Proofs.YtdkmkcgghhncdaaDoorW.PrintLast
set_option linter.unusedVariables false
open Q Plain

/-- How many seatings there are. -/
def tell (n : Int) (l : List Pr) : Int × Bool := if party n l = true then (if n ≤ 9 then (((allR n.toNat (adj l) true).length : Int), true) else (0, false)) else (0, false)

theorem sumUp_ev {n : Nat} (hn : n ≤ 9) (f : Nat → Nat → Bool) (r : List Int) (hr : r.length = n) (C : Int) (hC : 0 ≤ C) (hC2 : C ≤ 387420489) : ∀ d i, n - i = d → i ≤ n → ∀ s : Int, -9223372036854775808 ≤ s → s < 9223372036854775808 → Plain.Alike (s + dotL (r.drop i) (fun v => if f (v + i) 0 = true then 1 else 0)) C → Ev (fun k => impl_CountSeatings.l0 k s (tabF n f) r (n : Int) (i : Int)) (C / 2, true) := by
  intro d
  induction d with
  | zero =>
    intro i hd hi s h0 h1 hA
    obtain rfl : i = n := by omega
    rw [List.drop_of_length_le (by omega)] at hA
    simp only [dotL, Int.add_zero] at hA
    have e := Plain.Alike.eq hA h0 h1 hC (by omega)
    subst e
    have hw : wrap64 (Int.tdiv s 2) = s / 2 := by
      rw [Int.tdiv_eq_ediv_of_nonneg hC]
      exact wrap_id (by omega) (by omega)
    exact Ev.step (f := fun _ => some (s / 2, true)) (fun k => by simp only [impl_CountSeatings.l0]; rw [if_neg (by omega), hw]) (Ev.now _)
  | succ d ih =>
    intro i hd hi s h0 h1 hA
    have hin : i < n := by omega
    have hir : i < r.length := by omega
    have hb := has_eq (n := n) (by omega) f hin (show 0 < n by omega)
    rw [List.drop_eq_getElem_cons hir] at hA
    simp only [dotL, Nat.zero_add] at hA
    have hA2 : Plain.Alike (wrap64 (s + wrap64 (r[i] * (if f i 0 = true then 1 else 0))) + dotL (r.drop (i + 1)) (fun v => if f (v + (i + 1)) 0 = true then 1 else 0)) C := by
      refine Plain.Alike.trans ?_ hA
      have ew : (fun v => if f (v + (i + 1)) 0 = true then (1 : Int) else 0) = fun v => if f (v + 1 + i) 0 = true then 1 else 0 := by
        funext v
        rw [show v + (i + 1) = v + 1 + i by omega]
      rw [ew, ← Int.add_assoc]
      refine Plain.Alike.add ?_ (Plain.Alike.refl _)
      exact (Plain.Alike.wrap _).trans ((Plain.Alike.refl _).add (Plain.Alike.wrap _))
    have hnext := ih (i + 1) (by omega) (by omega) _ (by unfold wrap64; omega) (by unfold wrap64; omega) hA2
    refine Ev.step (f := fun k => impl_CountSeatings.l0 k (wrap64 (s + wrap64 (r[i] * (if f i 0 = true then 1 else 0)))) (tabF n f) r (n : Int) ((i + 1 : Nat) : Int)) (fun k => ?_) hnext
    simp only [impl_CountSeatings.l0]
    have hbit : impl_bit.f (f i 0) = some (if f i 0 = true then 1 else 0) := by unfold impl_bit.f; split <;> rfl
    rw [if_pos (by omega), if_pos (by omega), if_pos (by omega), show impl_table_has.f (tabF n f) (i : Int) 0 = some (f i 0) from hb, Option.bind_some, hbit, Option.bind_some, rd_at hir, succ_cast hin (by omega)]

theorem impl_ev (n : Int) (l : List Pr) (h : l.length ≤ 9223372036854775807) : Ev (fun k => impl_CountSeatings.f k n l) (tell n l) := by
  unfold impl_CountSeatings.f impl_isSeated.f tell
  have hS : Ev (fun k => (impl_IsParty.f k n l).bind fun t => if t = true then some (decide (n ≤ 9)) else some false) (party n l && decide (n ≤ 9)) := by
    refine Ev.bind (isParty_ev n l h) ?_
    refine ev_if (fun b => ?_) (fun b => ?_)
    · rw [b, Bool.true_and]; exact Ev.now _
    · rw [show party n l = false by simpa using b]; exact Ev.now _
  refine Ev.bind hS ?_
  by_cases b : party n l = true
  rotate_left
  · rw [if_neg b, show party n l = false by simpa using b]; exact Ev.now _
  rw [if_pos b, b, Bool.true_and]
  by_cases b9 : n ≤ 9
  rotate_left
  · rw [if_neg b9, decide_eq_false b9]; exact Ev.now _
  rw [if_pos b9, decide_eq_true b9]
  refine ev_if (fun _ => ?_) (fun c => absurd rfl c)
  obtain ⟨m, rfl, hm, hr, _⟩ := party_right b
  rw [Int.toNat_natCast]
  refine ev_if (fun c => ?_) (fun c => ?_)
  · rw [allR_few (by omega)]
    exact Ev.now _
  · have h3 : 3 ≤ m := by omega
    have h9 : m ≤ 9 := by omega
    refine Ev.bind (table_ev hm hr h) ?_
    obtain ⟨r, hrow, hlen, hA⟩ := countRows_ev h9 (by omega) (adj l)
    refine Ev.bind hrow ?_
    rw [hlen]
    have hmany := allR_many h9 (adj l) true
    have htwice := rounds_told h3 (f := adj l) (adj_comm l)
    have hbound : (rounds m (adj l)).length ≤ 387420489 := by
      have h1 := whole_many m (adj l) (m - 1) [0]
      have h2 : m ^ (m - 1) ≤ 387420489 := Nat.le_trans (Nat.pow_le_pow_right (by omega) (show m - 1 ≤ 9 by omega)) (Nat.le_trans (Nat.pow_le_pow_left h9 9) (by decide))
      unfold rounds
      exact Nat.le_trans (List.length_filter_le _ _) (Nat.le_trans h1 h2)
    have q := sumUp_ev h9 (adj l) r hlen ((rounds m (adj l)).length : Int) (by omega) (by omega) m 0 (by omega) (by omega) 0 (by omega) (by omega) (by
      rw [List.drop_zero, Int.zero_add]
      exact hA)
    have e : ((rounds m (adj l)).length : Int) / 2 = ((allR m (adj l) true).length : Int) := by omega
    rw [e] at q
    exact q

theorem spec_ev (n : Int) (l : List Pr) (h : l.length ≤ 9223372036854775807) : Ev (fun k => spec_CountSeatings.f k n l) (tell n l) := by
  unfold spec_CountSeatings.f spec_taFew.f tell
  have hS : Ev (fun k => (spec_paGood.f k n l).bind fun t => if t = true then some (decide (n ≤ 9)) else some false) (party n l && decide (n ≤ 9)) := by
    refine Ev.bind (paGood_ev n l h) ?_
    refine ev_if (fun b => ?_) (fun b => ?_)
    · rw [b, Bool.true_and]; exact Ev.now _
    · rw [show party n l = false by simpa using b]; exact Ev.now _
  refine Ev.bind hS ?_
  by_cases b : party n l = true
  rotate_left
  · rw [if_neg b, show party n l = false by simpa using b]; exact Ev.now _
  rw [if_pos b, b, Bool.true_and]
  by_cases b9 : n ≤ 9
  rotate_left
  · rw [if_neg b9, decide_eq_false b9]; exact Ev.now _
  rw [if_pos b9, decide_eq_true b9]
  refine ev_if (fun _ => ?_) (fun c => absurd rfl c)
  obtain ⟨m, rfl, hm, hr, _⟩ := party_right b
  rw [Int.toNat_natCast]
  have q : Ev (fun k => spec_taAll.f k (m : Int) l true) (appR (0, []) (allR m (adj l) true)) := by
    unfold spec_taAll.f
    exact Ev.bind (paTable_ev hm hr h) (taAll_ev (by omega) (adj l) true)
  refine Ev.bind q ?_
  have e : (appR (0, []) (allR m (adj l) true)).1 = ((allR m (adj l) true).length : Int) := by
    unfold appR
    simp
  rw [e]
  exact Ev.now _

theorem FnExactCountSeatings : laws_FnExactCountSeatings.Pure := by
  intro n l _ hl _
  refine Ev.rounds (g := fun k => laws_FnExactCountSeatings.f k n l) ?_
  unfold laws_FnExactCountSeatings.f
  refine ev_bind0 (szParty_eq n l 1048576 (by omega) (by omega) hl) ?_
  refine ev_if (fun _ => Ev.now _) (fun hb => ?_)
  have hs : l.length ≤ 1048576 := by
    by_cases h : (1048576 : Int) < (l.length : Int)
    · rw [if_pos h] at hb; omega
    · omega
  have hTl := toParty_ev n l (by omega)
  have hl2 : (l.map toP).length ≤ 1048576 := by rw [List.length_map]; exact hs
  have hS := spec_ev n (l.map toP) (by omega)
  have hI := impl_ev n (l.map toP) (by omega)
  generalize tell n (l.map toP) = z at hS hI
  obtain ⟨c, ok1⟩ := z
  refine Ev.bind hTl ?_
  refine Ev.bind hS ?_
  refine Ev.bind hTl ?_
  refine Ev.bind hI ?_
  refine ev_if (fun _ => ?_) (fun h => absurd rfl h)
  show Ev (fun k => laws_FnExactCountSeatings.j0 k (ok1 != ok1) n l n (l.map toP)) true
  rw [show (ok1 != ok1) = false by simp]
  refine Ev.step (f := fun k => (laws_toParty.f k n l).bind fun bt => (laws_eqParty.f k n (l.map toP) bt.1 bt.2).bind fun t => if t = true then some true else some false) (fun k => ?_) ?_
  · simp only [laws_FnExactCountSeatings.j0]
    rfl
  · refine Ev.bind hTl ?_
    refine Ev.bind (eqParty_ev n (l.map toP) (by simp only [List.length_map]; omega)) ?_
    exact ev_if (fun _ => Ev.now _) (fun c => absurd rfl c)
end Go.Proofs.YtdkmkcgghhncdaaDoor.Pure
