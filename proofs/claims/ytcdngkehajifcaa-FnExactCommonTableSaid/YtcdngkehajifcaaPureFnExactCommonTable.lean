import Derived.Test.YtcdngkehajifcaaQ0
import Derived.Test.YtcdngkehajifcaaQ7
import Derived.Test.YtcdngkehajifcaaQ8
import Derived.Test.YtcdngkehajifcaaQ9
import Derived.Test.YtcdngkehajifcaaQ19
import Derived.Test.YtcdngkehajifcaaQ23
import Derived.Test.YtcdngkehajifcaaQ30
import Derived.Test.YtcdngkehajifcaaQ32
import Derived.Test.YtcdngkehajifcaaQ34
import Derived.Test.YtcdngkehajifcaaQ35
import Derived.Test.YtcdngkehajifcaaSayFnExactCommonTable
/- Plain lemmas over rounds, lists and whole numbers, for the pure statements of this seat. No condition. -/
namespace Go.Proofs.Ytcdngkehajifcaa.Plain
open Go.RowKit Go.Proofs.YtcdngkehajifcaaW.PrintWords Go.Proofs.YtcdngkehajifcaaW.PrintLast
set_option linter.unusedVariables false

theorem wrap_id {x : Int} (h0 : -9223372036854775808 ≤ x) (h1 : x ≤ 9223372036854775807) : wrap64 x = x := by
  unfold wrap64
  omega

theorem rd_at {l : List Int} {i : Nat} (h : i < l.length) : rd l (i : Int) = l[i] := by
  simp [rd, List.getD, h]

theorem ev_some {α : Type} {g : Nat → Option α} {r : α} (h : ∀ k, g k = some r) : Ev g r := ⟨0, fun k _ => h k⟩

theorem ev_bind0 {α β : Type} {g : Option α} {f : Nat → α → Option β} {a : α} {r : β} (h : g = some a) (k : Ev (fun n => f n a) r) : Ev (fun n => g.bind (f n)) r := by
  obtain ⟨K, hK⟩ := k
  refine ⟨K, fun n hn => ?_⟩
  show g.bind (f n) = some r
  rw [h]
  exact hK n hn

theorem ev_if {α : Type} {c : Prop} [Decidable c] {f g : Nat → Option α} {r : α} (hf : c → Ev f r) (hg : ¬ c → Ev g r) : Ev (fun n => if c then f n else g n) r := by
  by_cases h : c
  · obtain ⟨K, hK⟩ := hf h
    exact ⟨K, fun n hn => (if_pos h).trans (hK n hn)⟩
  · obtain ⟨K, hK⟩ := hg h
    exact ⟨K, fun n hn => (if_neg h).trans (hK n hn)⟩

/-- A loop over an index, from any index on, in one shape. -/
theorem ev_up {α : Type} {n : Nat} {loop : Nat → Nat → Option α} {r : Nat → α} (hend : Ev (fun k => loop k n) (r n)) (hstep : ∀ i, i < n → (Ev (fun k => loop k (i + 1)) (r (i + 1)) → Ev (fun k => loop k i) (r i))) :
    ∀ i, i ≤ n → Ev (fun k => loop k i) (r i) := by
  intro i hi
  have : ∀ d i, i ≤ n → n - i = d → Ev (fun k => loop k i) (r i) := by
    intro d
    induction d with
    | zero =>
      intro i hi hd
      have e : i = n := by omega
      rw [e]; exact hend
    | succ d ih =>
      intro i hi hd
      exact hstep i (by omega) (ih (i + 1) (by omega) (by omega))
  exact this (n - i) i hi rfl
theorem all_step (f : Nat → Bool) {m i : Nat} (h : i < m) : ((List.range m).drop i).all f = (f i && ((List.range m).drop (i + 1)).all f) := by
  rw [List.drop_eq_getElem_cons (by simpa using h), List.all_cons, List.getElem_range]
theorem all_end (f : Nat → Bool) {m i : Nat} (h : m ≤ i) : ((List.range m).drop i).all f = true := by
  rw [List.drop_of_length_le (by simpa using h)]; rfl
theorem succ_cast {i n : Nat} (h : i < n) (hn : n ≤ 9223372036854775807) : wrap64 ((i : Int) + 1) = ((i + 1 : Nat) : Int) := by
  rw [wrap_id (by omega) (by omega)]; rfl
theorem pred_cast {i : Nat} (h : 1 ≤ i) (hn : i ≤ 9223372036854775807) : wrap64 ((i : Int) - 1) = ((i - 1 : Nat) : Int) := by
  rw [wrap_id (by omega) (by omega)]; omega
end Go.Proofs.Ytcdngkehajifcaa.Plain

/- The law's own functions over lists of whole numbers: copies, equality, bounds. No condition but lengths that fit. -/
namespace Go.Proofs.Ytcdngkehajifcaa.Plain
open Go.RowKit Go.Proofs.YtcdngkehajifcaaW.PrintWords Go.Proofs.YtcdngkehajifcaaW.PrintLast
set_option linter.unusedVariables false
open Q

theorem eqIntS_ev (l : List Int) (h : l.length ≤ 9223372036854775807) : Ev (fun k => laws_eqIntS.f k l l) true := by
  refine Ev.congr (f := fun k => laws_eqIntS.l0 k l l 0) (fun k => ?_) ?_
  · unfold laws_eqIntS.f
    rw [if_pos rfl]
  · exact ev_up (n := l.length) (loop := fun k i => laws_eqIntS.l0 k l l (i : Int)) (r := fun _ => true)
      (Ev.step (f := fun _ => some true) (fun k => by simp [laws_eqIntS.l0]) (Ev.now true))
      (fun i hi ih => Ev.step (f := fun k => laws_eqIntS.l0 k l l ((i + 1 : Nat) : Int)) (fun k => by
        simp only [laws_eqIntS.l0]
        rw [if_pos (by omega), if_pos (by omega), if_pos (by omega), if_pos trivial, succ_cast hi h]) ih) 0 (Nat.zero_le _)

theorem l1In_eq (a b c : Int) : spec_l1In.f a b c = some (decide (b ≤ a) && decide (a ≤ c)) := by
  unfold spec_l1In.f
  by_cases h : b ≤ a <;> simp [h]

theorem within_eq (a b c : Int) : impl_within.f a b c = some (decide (b ≤ a) && decide (a ≤ c)) := by
  unfold impl_within.f
  by_cases h : b ≤ a <;> simp [h]

end Go.Proofs.Ytcdngkehajifcaa.Plain

/- Is a number in a list: the reference's way. No condition but a length that fits. -/
namespace Go.Proofs.Ytcdngkehajifcaa.Plain
open Go.RowKit Go.Proofs.YtcdngkehajifcaaW.PrintWords Go.Proofs.YtcdngkehajifcaaW.PrintLast
set_option linter.unusedVariables false
open Q

end Go.Proofs.Ytcdngkehajifcaa.Plain

/- Parties: both sides' tests, and the law's own functions over parties. No condition but lengths that fit. -/
namespace Go.Proofs.Ytcdngkehajifcaa.Plain
open Go.RowKit Go.Proofs.YtcdngkehajifcaaW.PrintWords Go.Proofs.YtcdngkehajifcaaW.PrintLast
set_option linter.unusedVariables false
open Q

abbrev Pr := S91
abbrev rdP (l : List Pr) (i : Int) : Pr := rd_T91 l i

theorem rdP_at {l : List Pr} {i : Nat} (h : i < l.length) : rd_T91 l (i : Int) = l[i] := by
  simp [rd_T91, List.getD, h]

def pairOk (n : Int) (x : Pr) : Bool := decide (0 ≤ x.f0) && (decide (x.f0 < x.f1) && decide (x.f1 < n))
def lessB (x y : Pr) : Bool := decide (x.f0 < y.f0) || (decide (x.f0 = y.f0) && decide (x.f1 < y.f1))
/-- The pair at an index is right, and comes behind the one before. -/
def okAt (n : Int) (l : List Pr) (i : Nat) : Bool := pairOk n (rdP l i) && (decide (i = 0) || lessB (rdP l ((i : Int) - 1)) (rdP l i))
def party (n : Int) (l : List Pr) : Bool := (decide (0 ≤ n) && decide (n ≤ 12)) && (List.range l.length).all (okAt n l)

theorem paLess_eq (x y : Pr) : spec_paLess.f x.f0 x.f1 y.f0 y.f1 = some (lessB x y) := by
  unfold spec_paLess.f lessB
  by_cases h : x.f0 < y.f0
  · rw [if_pos h, decide_eq_true h]; rfl
  · rw [if_neg h, decide_eq_false h]
    by_cases h2 : x.f0 = y.f0
    · rw [if_pos h2, decide_eq_true h2]; simp
    · rw [if_neg h2, decide_eq_false h2]; simp

/-- Compared as the library compares whole numbers. -/
def cmpI (a b : Int) : Int := if a < b then -1 else if a > b then 1 else 0
theorem compare_eq (a b : Int) : cmp_Compare_int.f a b = some (cmpI a b) := by
  unfold cmp_Compare_int.f cmp_isNaN_int.f cmpI
  simp
  by_cases h : a < b
  · simp [h]
  · by_cases h2 : b < a <;> simp [h, h2]

theorem or_two (a b : Int) : Ev (fun k => cmp_Or_int.f k [a, b]) (if a = 0 then b else a) := by
  refine Ev.of (fun k => cmp_Or_int.mono [a, b] k) (k := 3) ?_
  by_cases h : a = 0
  · by_cases h2 : b = 0
    · simp [cmp_Or_int.f, cmp_Or_int.l0, rd, h, h2, wrap64]
    · simp [cmp_Or_int.f, cmp_Or_int.l0, rd, h, h2, wrap64]
  · simp [cmp_Or_int.f, cmp_Or_int.l0, rd, h]

theorem comparePairs_ev (x y : Pr) : Ev (fun k => impl_comparePairs.f k x.f0 x.f1 y.f0 y.f1) (if cmpI x.f0 y.f0 = 0 then cmpI x.f1 y.f1 else cmpI x.f0 y.f0) := by
  unfold impl_comparePairs.f
  refine ev_bind0 (compare_eq _ _) ?_
  refine ev_bind0 (compare_eq _ _) ?_
  exact Ev.bind (f := fun _ t => some t) (or_two _ _) (Ev.now _)

theorem compare_less (x y : Pr) : ((if cmpI x.f0 y.f0 = 0 then cmpI x.f1 y.f1 else cmpI x.f0 y.f0) ≥ 0) ↔ lessB x y = false := by
  unfold cmpI lessB
  by_cases h1 : x.f0 < y.f0
  · simp [h1]
  · by_cases h2 : y.f0 < x.f0
    · have : ¬ x.f0 = y.f0 := by omega
      simp [h1, h2, this]
    · have e : x.f0 = y.f0 := by omega
      by_cases h3 : x.f1 < y.f1
      · simp [e, h3]
      · by_cases h4 : y.f1 < x.f1 <;> simp [e, h3, h4]

theorem areCrowd_eq (n : Int) : impl_areCrowd.f n = some (decide (0 ≤ n) && decide (n ≤ 12)) := by
  unfold impl_areCrowd.f
  rw [within_eq]; rfl

theorem isParty_ev (n : Int) (l : List Pr) (h : l.length ≤ 9223372036854775807) : Ev (fun k => impl_IsParty.f k n l) (party n l) := by
  have q := ev_up (n := l.length) (loop := fun k i => impl_IsParty.l0 k l (l.length : Int) (i : Int) n l) (r := fun i => (decide (0 ≤ n) && decide (n ≤ 12)) && ((List.range l.length).drop i).all (okAt n l))
    (Ev.step (f := fun _ => some (decide (0 ≤ n) && decide (n ≤ 12))) (fun k => by
        simp only [impl_IsParty.l0]
        rw [if_neg (by omega), areCrowd_eq]; rfl) (by rw [all_end _ (Nat.le_refl _), Bool.and_true]; exact Ev.now _))
    (fun i hi ih => by
      rw [all_step (okAt n l) hi]
      have e0 : okAt n l i = (pairOk n l[i] && (decide (i = 0) || lessB (rdP l ((i : Int) - 1)) l[i])) := by
        unfold okAt rdP; rw [rdP_at hi]
      by_cases a1 : l[i].f0 < 0
      · have e : okAt n l i = false := by rw [e0]; simp [pairOk]; omega
        rw [e]
        refine Ev.step (f := fun _ => some false) (fun k => ?_) (by simpa using Ev.now false)
        simp only [impl_IsParty.l0]
        rw [if_pos (by omega), if_pos (by omega), if_pos (by omega), rdP_at hi, if_pos a1]
      by_cases a2 : l[i].f0 ≥ l[i].f1
      · have e : okAt n l i = false := by rw [e0]; simp [pairOk]; omega
        rw [e]
        refine Ev.step (f := fun _ => some false) (fun k => ?_) (by simpa using Ev.now false)
        simp only [impl_IsParty.l0]
        rw [if_pos (by omega), if_pos (by omega), if_pos (by omega), rdP_at hi, if_neg a1, if_pos a2]
      by_cases a3 : l[i].f1 ≥ n
      · have e : okAt n l i = false := by rw [e0]; simp [pairOk]; omega
        rw [e]
        refine Ev.step (f := fun _ => some false) (fun k => ?_) (by simpa using Ev.now false)
        simp only [impl_IsParty.l0]
        rw [if_pos (by omega), if_pos (by omega), if_pos (by omega), rdP_at hi, if_neg a1, if_neg a2, if_pos a3]
      have ep : pairOk n l[i] = true := by simp [pairOk]; omega
      by_cases a4 : i = 0
      · have e : okAt n l i = true := by rw [e0, ep, decide_eq_true a4]; simp
        rw [e]
        refine Ev.step (f := fun k => impl_IsParty.l0 k l (l.length : Int) ((i + 1 : Nat) : Int) n l) (fun k => ?_) (by simpa using ih)
        simp only [impl_IsParty.l0]
        rw [if_pos (by omega), if_pos (by omega), if_pos (by omega), rdP_at hi, if_neg a1, if_neg a2, if_neg a3, if_neg (by omega), succ_cast hi h]
      · have ew : wrap64 ((i : Int) - 1) = ((i - 1 : Nat) : Int) := by rw [wrap_id (by omega) (by omega)]; omega
        have ew2 : ((i : Int) - 1) = ((i - 1 : Nat) : Int) := by omega
        have e : okAt n l i = lessB l[i-1] l[i] := by
          rw [e0, ep, decide_eq_false a4, ew2]
          unfold rdP
          rw [rdP_at (by omega)]; simp
        rw [e]
        refine Ev.step (f := fun k => (impl_comparePairs.f k l[i-1].f0 l[i-1].f1 l[i].f0 l[i].f1).bind fun t => if t ≥ 0 then some false else impl_IsParty.l0 k l (l.length : Int) ((i + 1 : Nat) : Int) n l) (fun k => ?_) ?_
        · simp only [impl_IsParty.l0]
          rw [if_pos (by omega), if_pos (by omega), if_pos (by omega), rdP_at hi, if_neg a1, if_neg a2, if_neg a3, if_pos (by omega), if_pos (by omega), if_pos (by omega), ew, rdP_at (by omega : i - 1 < l.length), succ_cast hi h]
        · refine Ev.bind (comparePairs_ev _ _) ?_
          refine ev_if (fun b => ?_) (fun b => ?_)
          · rw [(compare_less _ _).mp b]; simpa using Ev.now false
          · have : lessB l[i-1] l[i] = true := by
              cases hb : lessB l[i-1] l[i] with
              | true => rfl
              | false => exact absurd ((compare_less _ _).mpr hb) b
            rw [this]; simpa using ih) 0 (Nat.zero_le _)
  simpa [impl_IsParty.f, party] using q

/-! What a party is, in words of numbers. -/
theorem party_of {n : Int} {l : List Pr} (h : party n l = true) : 0 ≤ n ∧ n ≤ 12 ∧ (∀ i, (hi : i < l.length) → 0 ≤ l[i].f0 ∧ l[i].f0 < l[i].f1 ∧ l[i].f1 < n) ∧ (∀ i, (hi : i + 1 < l.length) → lessB l[i] l[i+1] = true) := by
  unfold party at h
  simp only [Bool.and_eq_true, decide_eq_true_eq, List.all_eq_true, List.mem_range] at h
  obtain ⟨⟨h1, h2⟩, h3⟩ := h
  refine ⟨h1, h2, fun i hi => ?_, fun i hi => ?_⟩
  · have q := h3 i hi
    unfold okAt rdP at q
    rw [rdP_at hi] at q
    simp only [Bool.and_eq_true, pairOk, decide_eq_true_eq] at q
    exact q.1
  · have q := h3 (i + 1) hi
    unfold okAt rdP at q
    rw [show (((i + 1 : Nat) : Int) - 1) = ((i : Nat) : Int) by omega, rdP_at hi, rdP_at (by omega : i < l.length)] at q
    simpa using (Bool.and_eq_true _ _ ▸ q).2
end Go.Proofs.Ytcdngkehajifcaa.Plain

/- A party as a relation between people; sets of people as numbers; how many hold. Plain lemmas. No condition. -/
namespace Go.Proofs.Ytcdngkehajifcaa.Plain
open Go.RowKit Go.Proofs.YtcdngkehajifcaaW.PrintWords Go.Proofs.YtcdngkehajifcaaW.PrintLast
set_option linter.unusedVariables false
open Q

/-- Are two people friends. -/
def adj (l : List Pr) (a b : Nat) : Bool := l.any fun x => (decide (x.f0 = (a : Int)) && decide (x.f1 = (b : Int))) || (decide (x.f0 = (b : Int)) && decide (x.f1 = (a : Int)))

theorem adj_nil (a b : Nat) : adj [] a b = false := rfl
theorem adj_snoc (l : List Pr) (x : Pr) (a b : Nat) : adj (l ++ [x]) a b = (adj l a b || ((decide (x.f0 = (a : Int)) && decide (x.f1 = (b : Int))) || (decide (x.f0 = (b : Int)) && decide (x.f1 = (a : Int))))) := by
  unfold adj
  rw [List.any_append]
  simp
/-- All pairs are right for n people. -/
def Right (n : Nat) (l : List Pr) : Prop := ∀ x ∈ l, 0 ≤ x.f0 ∧ x.f0 < x.f1 ∧ x.f1 < (n : Int)
theorem Right.take {n : Nat} {l : List Pr} (h : Right n l) (i : Nat) : Right n (l.take i) := fun x hx => h x (List.mem_of_mem_take hx)

theorem lessB_trans {x y z : Pr} (h1 : lessB x y = true) (h2 : lessB y z = true) : lessB x z = true := by
  unfold lessB at *
  simp only [Bool.or_eq_true, Bool.and_eq_true, decide_eq_true_eq] at *
  omega
theorem sorted_lt {l : List Pr} (h : ∀ i, (hi : i + 1 < l.length) → lessB l[i] l[i+1] = true) : ∀ d i, (hi : i + 1 + d < l.length) → lessB l[i] l[i + 1 + d] = true := by
  intro d
  induction d with
  | zero => intro i hi; exact h i hi
  | succ d ih =>
    intro i hi
    have q := ih i (by omega)
    have q2 := h (i + 1 + d) (by omega)
    exact lessB_trans q q2

/-- What a right party tells: people from 0 to 12, right pairs, in order. -/
theorem party_right {n : Int} {l : List Pr} (h : party n l = true) : ∃ m : Nat, n = (m : Int) ∧ m ≤ 12 ∧ Right m l ∧ (∀ i j, (hj : j < l.length) → (hij : i < j) → lessB l[i] l[j] = true) := by
  obtain ⟨h1, h2, h3, h4⟩ := party_of h
  refine ⟨n.toNat, by omega, by omega, fun x hx => ?_, fun i j hj hij => ?_⟩
  · obtain ⟨i, hi, rfl⟩ := List.getElem_of_mem hx
    have := h3 i hi
    omega
  · have := sorted_lt h4 (j - i - 1) i (by omega)
    have e : i + 1 + (j - i - 1) = j := by omega
    simpa only [e] using this

/-! Sets of people as numbers. -/
def maskOf (f : Nat → Bool) : Nat → Nat
  | 0 => 0
  | n + 1 => maskOf f n + (if f n = true then 2 ^ n else 0)

theorem maskOf_lt (f : Nat → Bool) : ∀ n, maskOf f n < 2 ^ n
  | 0 => by simp [maskOf]
  | n + 1 => by
    have := maskOf_lt f n
    unfold maskOf
    rw [Nat.pow_succ]
    split <;> omega

theorem maskOf_bit (f : Nat → Bool) : ∀ n b, (maskOf f n).testBit b = (decide (b < n) && f b)
  | 0, b => by simp [maskOf]
  | n + 1, b => by
    have ih := maskOf_bit f n b
    have hlt := maskOf_lt f n
    unfold maskOf
    by_cases h : f n = true
    · rw [if_pos h, Nat.add_comm]
      rcases Nat.lt_trichotomy b n with hb | rfl | hb
      · rw [Nat.testBit_two_pow_add_gt hb, ih]
        simp [hb, Nat.lt_succ_of_lt hb]
      · rw [Nat.testBit_two_pow_add_eq, Nat.testBit_lt_two_pow hlt]
        simp [h]
      · have h1 : 2 ^ (n + 1) ≤ 2 ^ b := Nat.pow_le_pow_right (by omega) (by omega)
        rw [Nat.pow_succ] at h1
        rw [Nat.testBit_lt_two_pow (by omega)]
        simp; omega
    · rw [if_neg h, Nat.add_zero, ih]
      by_cases e : b = n
      · subst e
        simp [Bool.eq_false_iff.mpr h]
      · have : decide (b < n + 1) = decide (b < n) := by
          apply decide_eq_decide.mpr; omega
        rw [this]

theorem maskOf_congr {f g : Nat → Bool} : ∀ {n}, (∀ b, b < n → f b = g b) → maskOf f n = maskOf g n
  | 0, _ => rfl
  | n + 1, h => by
    unfold maskOf
    rw [maskOf_congr (n := n) (fun b hb => h b (by omega)), h n (by omega)]

theorem mask_or (f g : Nat → Bool) (n : Nat) : maskOf f n ||| maskOf g n = maskOf (fun b => f b || g b) n := by
  apply Nat.eq_of_testBit_eq
  intro b
  rw [Nat.testBit_or, maskOf_bit, maskOf_bit, maskOf_bit]
  cases decide (b < n) <;> simp
theorem mask_and (f g : Nat → Bool) (n : Nat) : maskOf f n &&& maskOf g n = maskOf (fun b => f b && g b) n := by
  apply Nat.eq_of_testBit_eq
  intro b
  rw [Nat.testBit_and, maskOf_bit, maskOf_bit, maskOf_bit]
  cases decide (b < n) <;> simp
theorem mask_one {n b : Nat} (h : b < n) : (2 ^ b : Nat) = maskOf (fun c => decide (c = b)) n := by
  apply Nat.eq_of_testBit_eq
  intro c
  rw [Nat.testBit_two_pow, maskOf_bit]
  by_cases e : b = c
  · subst e; simp [h]
  · have : ¬ (c = b) := fun q => e q.symm
    simp [e, this]

/-! How many hold. -/
def cnt (f : Nat → Bool) (n : Nat) : Nat := (List.range n).countP f
theorem cnt_zero (f : Nat → Bool) : cnt f 0 = 0 := rfl
theorem cnt_succ (f : Nat → Bool) (n : Nat) : cnt f (n + 1) = cnt f n + (if f n = true then 1 else 0) := by
  unfold cnt
  rw [List.range_succ, List.countP_append]
  simp [List.countP_cons]
theorem cnt_le (f : Nat → Bool) (n : Nat) : cnt f n ≤ n := by
  unfold cnt
  have := List.countP_le_length (p := f) (l := List.range n)
  simpa using this
theorem cnt_congr {f g : Nat → Bool} {n : Nat} (h : ∀ b, b < n → f b = g b) : cnt f n = cnt g n := by
  unfold cnt
  apply List.countP_congr
  intro x hx
  rw [h x (by simpa using hx)]
theorem cnt_ext (f : Nat → Bool) (n : Nat) : ∀ d, cnt (fun b => decide (b < n) && f b) (n + d) = cnt f n
  | 0 => cnt_congr (fun b hb => by simp [show b < n by omega])
  | d + 1 => by
    rw [show n + (d + 1) = (n + d) + 1 by omega, cnt_succ, cnt_ext f n d]
    have : decide (n + d < n) = false := by simp
    rw [this, Bool.false_and]; simp
end Go.Proofs.Ytcdngkehajifcaa.Plain

/- The program's table of a party: for each person its friends, as the bits of a number. No condition but lengths that fit. -/
namespace Go.Proofs.Ytcdngkehajifcaa.Plain
open Go.RowKit Go.Proofs.YtcdngkehajifcaaW.PrintWords Go.Proofs.YtcdngkehajifcaaW.PrintLast
set_option linter.unusedVariables false
open Q

theorem wraps_u16 (n : Int) (h₀ : 0 ≤ n) (h₁ : n < 2 ^ 16) : IntKind.u16.wrap n = n := by
  have : IntKind.u16.wrap n = n % 65536 := by simp [IntKind.wrap, IntKind.bits, IntKind.signed]
  rw [this]; omega
theorem or16 {a b : Nat} (ha : a < 2 ^ 16) (hb : b < 2 ^ 16) : Go.bits .or .u16 (a : Int) (b : Int) = ((a ||| b : Nat) : Int) := (bits_nat .u16 16 (by decide) wraps_u16 a b ha hb).2
theorem and16 {a b : Nat} (ha : a < 2 ^ 16) (hb : b < 2 ^ 16) : Go.bits .and .u16 (a : Int) (b : Int) = ((a &&& b : Nat) : Int) := (bits_nat .u16 16 (by decide) wraps_u16 a b ha hb).1
theorem shl16 {b : Nat} (hb : b < 16) : shl .u16 1 (b : Int) = ((2 ^ b : Nat) : Int) := by
  unfold shl
  have h1 : min ((b : Int)).toNat IntKind.u16.bits = b := by
    rw [Int.toNat_natCast]
    exact Nat.min_eq_left (by show b ≤ 16; omega)
  rw [h1, Int.one_mul, wraps_u16]
  · simp
  · exact Int.pow_nonneg (by decide)
  · have : (2 : Nat) ^ b < 2 ^ 16 := Nat.pow_lt_pow_right (by omega) hb
    exact_mod_cast this

/-- The table of a relation of n people. -/
def tabF (n : Nat) (f : Nat → Nat → Bool) : List Int := (List.range n).map fun a => ((maskOf (f a) n : Nat) : Int)
theorem tabF_length (n : Nat) (f : Nat → Nat → Bool) : (tabF n f).length = n := by simp [tabF]
theorem tabF_get {n : Nat} {f : Nat → Nat → Bool} {a : Nat} (h : a < n) : rd (tabF n f) (a : Int) = ((maskOf (f a) n : Nat) : Int) := by
  rw [rd_at (by rw [tabF_length]; exact h)]
  simp [tabF]
theorem tabF_congr {n : Nat} {f g : Nat → Nat → Bool} (h : ∀ a b, a < n → b < n → f a b = g a b) : tabF n f = tabF n g := by
  unfold tabF
  apply List.map_congr_left
  intro a ha
  rw [maskOf_congr (fun b hb => h a b (by simpa using ha) hb)]
theorem mask16 {f : Nat → Bool} {n : Nat} (h : n ≤ 16) : maskOf f n < 2 ^ 16 := Nat.lt_of_lt_of_le (maskOf_lt f n) (Nat.pow_le_pow_right (by omega) h)

/-- The relation with two people made friends. -/
def withP (f : Nat → Nat → Bool) (a b : Nat) : Nat → Nat → Bool := fun c d => f c d || ((decide (c = a) && decide (d = b)) || (decide (c = b) && decide (d = a)))

/-- One pair put into the table, as both the loop and 'put' do it. -/
theorem tab_put {n : Nat} (hn : n ≤ 16) (f : Nat → Nat → Bool) {a b : Nat} (ha : a < n) (hb : b < n) (hab : a ≠ b) :
    ((tabF n f).set a (Go.bits .or .u16 (rd (tabF n f) (a : Int)) (shl .u16 1 (b : Int)))).set b
      (Go.bits .or .u16 (rd ((tabF n f).set a (Go.bits .or .u16 (rd (tabF n f) (a : Int)) (shl .u16 1 (b : Int)))) (b : Int)) (shl .u16 1 (a : Int))) = tabF n (withP f a b) := by
  have e1 : Go.bits .or .u16 (rd (tabF n f) (a : Int)) (shl .u16 1 (b : Int)) = ((maskOf (withP f a b a) n : Nat) : Int) := by
    rw [tabF_get ha, shl16 (by omega), or16 (mask16 hn) (Nat.pow_lt_pow_right (by omega) (by omega)), mask_one hb, mask_or]
    congr 1
    apply maskOf_congr
    intro c _
    unfold withP
    simp [hab]
  have e2 : rd ((tabF n f).set a (Go.bits .or .u16 (rd (tabF n f) (a : Int)) (shl .u16 1 (b : Int)))) (b : Int) = ((maskOf (f b) n : Nat) : Int) := by
    rw [rd_at (by rw [List.length_set, tabF_length]; exact hb), List.getElem_set_ne hab]
    simp [tabF]
  have e3 : Go.bits .or .u16 ((maskOf (f b) n : Nat) : Int) (shl .u16 1 (a : Int)) = ((maskOf (withP f a b b) n : Nat) : Int) := by
    rw [shl16 (by omega), or16 (mask16 hn) (Nat.pow_lt_pow_right (by omega) (by omega)), mask_one ha, mask_or]
    congr 1
    apply maskOf_congr
    intro c _
    unfold withP
    simp [show ¬ (b = a) from fun q => hab q.symm]
  rw [e2, e3, e1]
  apply List.ext_getElem
  · simp [tabF_length]
  · intro i h1 h2
    rw [tabF_length] at h2
    rw [List.getElem_set, List.getElem_set]
    by_cases i1 : b = i
    · subst i1
      rw [if_pos rfl]
      simp [tabF]
    · rw [if_neg i1]
      by_cases i2 : a = i
      · subst i2
        rw [if_pos rfl]
        simp [tabF]
      · rw [if_neg i2]
        simp only [tabF, List.getElem_map, List.getElem_range]
        congr 1
        apply maskOf_congr
        intro c _
        unfold withP
        simp [show ¬ (i = a) from fun q => i2 q.symm, show ¬ (i = b) from fun q => i1 q.symm]

theorem table_ev {n : Nat} {l : List Pr} (hn : n ≤ 12) (hr : Right n l) (h : l.length ≤ 9223372036854775807) : Ev (fun k => impl_Party_table.f k (n : Int) l) (tabF n (adj l)) := by
  refine Ev.congr (f := fun k => impl_Party_table.l0 k (List.replicate n 0) l (l.length : Int) 0) (fun k => ?_) ?_
  · unfold impl_Party_table.f
    rw [if_pos (by omega), if_pos (by omega), Int.toNat_natCast]
  · have q := ev_up (n := l.length) (loop := fun k i => impl_Party_table.l0 k (tabF n (adj (l.take i))) l (l.length : Int) (i : Int)) (r := fun _ => tabF n (adj l))
      (Ev.step (f := fun _ => some (tabF n (adj l))) (fun k => by simp [impl_Party_table.l0]) (Ev.now _))
      (fun i hi ih => by
        have r := hr _ (List.getElem_mem hi)
        have ea : ((l[i].f0.toNat : Nat) : Int) = l[i].f0 := by omega
        have eb : ((l[i].f1.toNat : Nat) : Int) = l[i].f1 := by omega
        have hput := tab_put (n := n) (by omega) (adj (l.take i)) (a := l[i].f0.toNat) (b := l[i].f1.toNat) (by omega) (by omega) (by omega)
        rw [ea, eb] at hput
        have hnext : tabF n (withP (adj (l.take i)) l[i].f0.toNat l[i].f1.toNat) = tabF n (adj (l.take (i + 1))) := by
          apply tabF_congr
          intro c d _ _
          rw [List.take_succ_eq_append_getElem hi, adj_snoc]
          unfold withP
          congr 1
          have k1 : decide (c = l[i].f0.toNat) = decide (l[i].f0 = (c : Int)) := by apply decide_eq_decide.mpr; omega
          have k2 : decide (d = l[i].f1.toNat) = decide (l[i].f1 = (d : Int)) := by apply decide_eq_decide.mpr; omega
          have k3 : decide (c = l[i].f1.toNat) = decide (l[i].f1 = (c : Int)) := by apply decide_eq_decide.mpr; omega
          have k4 : decide (d = l[i].f0.toNat) = decide (l[i].f0 = (d : Int)) := by apply decide_eq_decide.mpr; omega
          rw [k1, k2, k3, k4, Bool.and_comm (decide (l[i].f1 = (c : Int)))]
        rw [hnext] at hput
        refine Ev.step (f := fun k => impl_Party_table.l0 k (tabF n (adj (l.take (i + 1)))) l (l.length : Int) ((i + 1 : Nat) : Int)) (fun k => ?_) ih
        simp only [impl_Party_table.l0]
        rw [if_pos (by omega), if_pos (by omega), if_pos (by omega), rdP_at hi, if_pos (by omega), if_pos (by rw [tabF_length]; omega), if_pos (by omega), Option.bind_some, if_pos (by rw [tabF_length]; omega), hput, succ_cast hi h]) 0 (Nat.zero_le _)
    have e : tabF n (adj (l.take 0)) = List.replicate n 0 := by
      have hz : ∀ m, maskOf (fun _ => false) m = 0 := by
        intro m
        induction m with
        | zero => rfl
        | succ m ih => unfold maskOf; rw [ih]; simp
      have : tabF n (fun _ _ => false) = List.replicate n 0 := by
        unfold tabF
        rw [List.eq_replicate_iff]
        refine ⟨by simp, fun b hb => ?_⟩
        obtain ⟨a, _, rfl⟩ := List.mem_map.1 hb
        rw [hz]; rfl
      rw [← this]
      apply tabF_congr
      intro a b _ _
      rw [List.take_zero, adj_nil]
    rw [e] at q
    exact q
end Go.Proofs.Ytcdngkehajifcaa.Plain

/- The reference's table of a party: for each person, of each person, whether they are friends. No condition but lengths that fit. -/
namespace Go.Proofs.Ytcdngkehajifcaa.Plain
open Go.RowKit Go.Proofs.YtcdngkehajifcaaW.PrintWords Go.Proofs.YtcdngkehajifcaaW.PrintLast
set_option linter.unusedVariables false
open Q

theorem rdB_at {l : List (List Bool)} {i : Nat} (h : i < l.length) : rd_L4 l (i : Int) = l[i] := by
  simp [rd_L4, List.getD, h]
theorem rdOfB_at {l : List Bool} {i : Nat} (h : i < l.length) : rdOf false l (i : Int) = l[i] := by
  simp [rdOf, List.getD, h]

/-- The table of a relation of n people, as bools. -/
def rowB (n : Nat) (f : Nat → Bool) : List Bool := (List.range n).map f
def tabB (n : Nat) (f : Nat → Nat → Bool) : List (List Bool) := (List.range n).map fun a => rowB n (f a)
theorem rowB_length (n : Nat) (f : Nat → Bool) : (rowB n f).length = n := by simp [rowB]
theorem rowB_get {n : Nat} {f : Nat → Bool} {a : Nat} (h : a < (rowB n f).length) : (rowB n f)[a] = f a := by simp [rowB]
theorem tabB_length (n : Nat) (f : Nat → Nat → Bool) : (tabB n f).length = n := by simp [tabB]
theorem tabB_getElem {n : Nat} {f : Nat → Nat → Bool} {a : Nat} (h : a < (tabB n f).length) : (tabB n f)[a] = rowB n (f a) := by simp [tabB]
theorem tabB_get {n : Nat} {f : Nat → Nat → Bool} {a : Nat} (h : a < n) : rd_L4 (tabB n f) (a : Int) = rowB n (f a) := by
  rw [rdB_at (by rw [tabB_length]; exact h), tabB_getElem]
theorem rowB_congr {n : Nat} {f g : Nat → Bool} (h : ∀ b, b < n → f b = g b) : rowB n f = rowB n g := by
  unfold rowB
  apply List.map_congr_left
  intro b hb
  exact h b (by simpa using hb)
theorem tabB_congr {n : Nat} {f g : Nat → Nat → Bool} (h : ∀ a b, a < n → b < n → f a b = g a b) : tabB n f = tabB n g := by
  unfold tabB
  apply List.map_congr_left
  intro a ha
  exact rowB_congr (fun b hb => h a b (by simpa using ha) hb)
theorem rowB_set {n : Nat} {f : Nat → Bool} {b : Nat} (v : Bool) : (rowB n f).set b v = rowB n (fun c => if c = b then v else f c) := by
  apply List.ext_getElem
  · simp [rowB_length]
  · intro i h1 h2
    rw [List.getElem_set, rowB_get]
    by_cases e : b = i
    · subst e; rw [if_pos rfl, rowB_get, if_pos rfl]
    · rw [if_neg e, rowB_get, if_neg (fun q => e q.symm)]

/-- Two cells set, the one of both people's. -/
def setP (f : Nat → Nat → Bool) (a b : Nat) (v : Bool) : Nat → Nat → Bool := fun c d => if (c = a ∧ d = b) ∨ (c = b ∧ d = a) then v else f c d

theorem tabB_put {n : Nat} (f : Nat → Nat → Bool) {a b : Nat} (ha : a < n) (hb : b < n) (hab : a ≠ b) (v : Bool) :
    ((tabB n f).set a ((rd_L4 (tabB n f) (a : Int)).set b v)).set b ((rd_L4 ((tabB n f).set a ((rd_L4 (tabB n f) (a : Int)).set b v)) (b : Int)).set a v) = tabB n (setP f a b v) := by
  have e2 : rd_L4 ((tabB n f).set a ((rd_L4 (tabB n f) (a : Int)).set b v)) (b : Int) = rowB n (f b) := by
    rw [rdB_at (by rw [List.length_set, tabB_length]; exact hb), List.getElem_set_ne hab, tabB_getElem]
  rw [e2, tabB_get ha, rowB_set, rowB_set]
  apply List.ext_getElem
  · simp [tabB_length]
  · intro i h1 h2
    rw [tabB_length] at h2
    rw [List.getElem_set, List.getElem_set]
    by_cases i1 : b = i
    · subst i1
      rw [if_pos rfl, tabB_getElem]
      apply rowB_congr
      intro c _
      unfold setP
      simp [show ¬ (b = a) from fun q => hab q.symm]
    · rw [if_neg i1]
      by_cases i2 : a = i
      · subst i2
        rw [if_pos rfl, tabB_getElem]
        apply rowB_congr
        intro c _
        unfold setP
        simp [hab]
      · rw [if_neg i2, tabB_getElem, tabB_getElem]
        apply rowB_congr
        intro c _
        unfold setP
        simp [show ¬ (i = a) from fun q => i2 q.symm, show ¬ (i = b) from fun q => i1 q.symm]

theorem setP_true (f : Nat → Nat → Bool) (a b c d : Nat) : setP f a b true c d = withP f a b c d := by
  unfold setP withP
  by_cases h : (c = a ∧ d = b) ∨ (c = b ∧ d = a)
  · rw [if_pos h]
    rcases h with ⟨rfl, rfl⟩ | ⟨rfl, rfl⟩ <;> simp
  · rw [if_neg h]
    have : ((decide (c = a) && decide (d = b)) || (decide (c = b) && decide (d = a))) = false := by
      rw [Bool.eq_false_iff]
      intro q
      exact h (by simpa using q)
    rw [this, Bool.or_false]

theorem adj_next {n : Nat} {l : List Pr} (hr : Right n l) {i : Nat} (hi : i < l.length) (c d : Nat) : withP (adj (l.take i)) l[i].f0.toNat l[i].f1.toNat c d = adj (l.take (i + 1)) c d := by
  have r := hr _ (List.getElem_mem hi)
  rw [List.take_succ_eq_append_getElem hi, adj_snoc]
  unfold withP
  congr 1
  have k1 : decide (c = l[i].f0.toNat) = decide (l[i].f0 = (c : Int)) := by apply decide_eq_decide.mpr; omega
  have k2 : decide (d = l[i].f1.toNat) = decide (l[i].f1 = (d : Int)) := by apply decide_eq_decide.mpr; omega
  have k3 : decide (c = l[i].f1.toNat) = decide (l[i].f1 = (c : Int)) := by apply decide_eq_decide.mpr; omega
  have k4 : decide (d = l[i].f0.toNat) = decide (l[i].f0 = (d : Int)) := by apply decide_eq_decide.mpr; omega
  rw [k1, k2, k3, k4, Bool.and_comm (decide (l[i].f1 = (c : Int)))]

theorem paTable_ev {n : Nat} {l : List Pr} (hn : n ≤ 12) (hr : Right n l) (h : l.length ≤ 9223372036854775807) : Ev (fun k => spec_paTable.f k (n : Int) l) (tabB n (adj l)) := by
  have q1 := ev_up (n := l.length) (loop := fun k i => spec_paTable.l1 k (tabB n (adj (l.take i))) l (l.length : Int) (i : Int)) (r := fun _ => tabB n (adj l))
    (Ev.step (f := fun _ => some (tabB n (adj l))) (fun k => by simp [spec_paTable.l1]) (Ev.now _))
    (fun i hi ih => by
      have r := hr _ (List.getElem_mem hi)
      have ea : ((l[i].f0.toNat : Nat) : Int) = l[i].f0 := by omega
      have eb : ((l[i].f1.toNat : Nat) : Int) = l[i].f1 := by omega
      have hput := tabB_put (n := n) (adj (l.take i)) (a := l[i].f0.toNat) (b := l[i].f1.toNat) (by omega) (by omega) (by omega) true
      have hnext : tabB n (setP (adj (l.take i)) l[i].f0.toNat l[i].f1.toNat true) = tabB n (adj (l.take (i + 1))) :=
        tabB_congr (fun c d _ _ => by rw [setP_true, adj_next hr hi])
      rw [hnext] at hput
      have la : (rd_L4 (tabB n (adj (l.take i))) l[i].f0).length = n := by
        rw [← ea, tabB_get (by omega), rowB_length]
      have lb : (rd_L4 ((tabB n (adj (l.take i))).set l[i].f0.toNat ((rd_L4 (tabB n (adj (l.take i))) l[i].f0).set l[i].f1.toNat true)) l[i].f1).length = n := by
        rw [← eb, rdB_at (by rw [List.length_set, tabB_length]; omega), List.getElem_set_ne (by omega), tabB_getElem, rowB_length]
      rw [ea, eb] at hput
      refine Ev.step (f := fun k => spec_paTable.l1 k (tabB n (adj (l.take (i + 1)))) l (l.length : Int) ((i + 1 : Nat) : Int)) (fun k => ?_) ih
      simp only [spec_paTable.l1]
      rw [if_pos (by omega), if_pos (by omega), if_pos (by omega), rdP_at hi, if_pos (by omega), if_pos (by rw [tabB_length]; omega), if_pos (by omega), if_pos (by rw [la]; omega), Option.bind_some, if_pos (by rw [tabB_length]; omega), if_pos (by rw [lb]; omega), hput, succ_cast hi h]) 0 (Nat.zero_le _)
  have e0 : tabB n (adj (l.take 0)) = List.replicate n (List.replicate n false) := by
    unfold tabB
    rw [List.eq_replicate_iff]
    refine ⟨by simp, fun b hb => ?_⟩
    obtain ⟨a, _, rfl⟩ := List.mem_map.1 hb
    unfold rowB
    rw [List.eq_replicate_iff]
    refine ⟨by simp, fun c hc => ?_⟩
    obtain ⟨d, _, rfl⟩ := List.mem_map.1 hc
    rw [List.take_zero, adj_nil]
  rw [e0] at q1
  have q0 := ev_up (n := n) (loop := fun k i => spec_paTable.l0 k (List.replicate i (List.replicate n false)) (i : Int) (n : Int) l) (r := fun _ => tabB n (adj l))
    (Ev.step (f := fun k => spec_paTable.l1 k (List.replicate n (List.replicate n false)) l (l.length : Int) 0) (fun k => by
      simp only [spec_paTable.l0]
      rw [if_neg (by omega)]) q1)
    (fun i hi ih => by
      refine Ev.step (f := fun k => spec_paTable.l0 k (List.replicate (i + 1) (List.replicate n false)) ((i + 1 : Nat) : Int) (n : Int) l) (fun k => ?_) ih
      simp only [spec_paTable.l0]
      rw [if_pos (by omega), if_pos (by omega), if_pos (by omega), if_pos (by simp; omega), Int.toNat_natCast, succ_cast hi (by omega), ← List.replicate_succ']) 0 (Nat.zero_le _)
  exact q0
end Go.Proofs.Ytcdngkehajifcaa.Plain

/- The party of a table, on both sides. No condition but that there are at most twelve people. -/
namespace Go.Proofs.Ytcdngkehajifcaa.Plain
open Go.RowKit Go.Proofs.YtcdngkehajifcaaW.PrintWords Go.Proofs.YtcdngkehajifcaaW.PrintLast
set_option linter.unusedVariables false
open Q

end Go.Proofs.Ytcdngkehajifcaa.Plain

/- The law's own functions over parties, and the reference's test. No condition but lengths that fit. -/
namespace Go.Proofs.Ytcdngkehajifcaa.Plain
open Go.RowKit Go.Proofs.YtcdngkehajifcaaW.PrintWords Go.Proofs.YtcdngkehajifcaaW.PrintLast
set_option linter.unusedVariables false
open Q

abbrev Lp := S96
/-- A pair of the law's as a pair of the program's. -/
def toP (x : Lp) : Pr := ⟨x.f0, x.f1⟩

theorem szParty_eq (n : Int) (l : List Lp) (a : Int) (h0 : 0 ≤ a) (h1 : a ≤ 1048576) (h : l.length ≤ 9223372036854775807) : laws_szParty.f n l a = some (if a < (l.length : Int) then -1 else a - l.length) := by
  unfold laws_szParty.f laws_szPairS.f
  rw [wrap_id (by omega) (by omega)]
  by_cases hl : a < (l.length : Int)
  · rw [if_pos (by omega), Option.bind_some, if_pos (by omega), if_pos hl]
  · rw [if_neg (by omega), Option.bind_some, if_neg (by omega), if_neg hl]

theorem rdLp_at {l : List Lp} {i : Nat} (h : i < l.length) : rd_T96 l (i : Int) = l[i] := by
  simp [rd_T96, List.getD, h]

theorem copy_map {α β : Type} (z : β) (g : α → β) (l : List α) (i : Nat) (h : i < l.length) :
    ((l.map g).take i ++ List.replicate (l.length - i) z).set ((i : Int)).toNat (g l[i]) = (l.map g).take (i + 1) ++ List.replicate (l.length - (i + 1)) z := by
  have e : l.length - i = (l.length - (i + 1)) + 1 := by omega
  have hl : ((l.map g).take i).length = i := by simp; omega
  have hm : i < (l.map g).length := by simpa using h
  rw [Int.toNat_natCast, e, List.replicate_succ, List.set_append_right _ _ (by omega), hl, Nat.sub_self, List.set_cons_zero, List.take_succ_eq_append_getElem hm, List.append_assoc, List.getElem_map]
  rfl

theorem toPairS_ev (l : List Lp) (h : l.length ≤ 17592186044416) : Ev (fun k => laws_toPairS.f k l) (l.map toP) := by
  refine Ev.congr (f := fun k => laws_toPairS.l0 k l (List.replicate l.length z91) 0) (fun k => ?_) ?_
  · unfold laws_toPairS.f
    rw [if_pos (by omega), if_pos (by omega), Int.toNat_natCast]
  · have q := ev_up (n := l.length) (loop := fun k i => laws_toPairS.l0 k l ((l.map toP).take i ++ List.replicate (l.length - i) z91) (i : Int)) (r := fun _ => l.map toP)
      (Ev.step (f := fun _ => some (l.map toP)) (fun k => by
        simp only [laws_toPairS.l0]
        rw [if_neg (by omega), Nat.sub_self, List.replicate_zero, List.append_nil, List.take_of_length_le (by simp)]) (Ev.now _))
      (fun i hi ih => Ev.step (f := fun k => laws_toPairS.l0 k l ((l.map toP).take (i + 1) ++ List.replicate (l.length - (i + 1)) z91) ((i + 1 : Nat) : Int)) (fun k => by
        simp only [laws_toPairS.l0]
        rw [if_pos (by omega), if_pos (by omega), rdLp_at hi]
        show (if (i : Int) < _ then laws_toPairS.l0 k l (List.set _ _ (toP l[i])) _ else none) = _
        rw [if_pos (by simp; omega), copy_map _ toP l i hi, succ_cast hi (by omega)]) ih) 0 (Nat.zero_le _)
    simpa using q

theorem toParty_ev (n : Int) (l : List Lp) (h : l.length ≤ 17592186044416) : Ev (fun k => laws_toParty.f k n l) (n, l.map toP) := by
  unfold laws_toParty.f
  exact Ev.bind (f := fun _ t => some (n, t)) (toPairS_ev l h) (Ev.now _)

theorem eqPair_eq (x : Pr) : laws_eqPair.f x.f0 x.f1 x.f0 x.f1 = some true := by
  unfold laws_eqPair.f
  rw [if_pos rfl, if_pos rfl]

theorem eqPairS_ev (l : List Pr) (h : l.length ≤ 9223372036854775807) : Ev (fun k => laws_eqPairS.f k l l) true := by
  refine Ev.congr (f := fun k => laws_eqPairS.l0 k l l 0) (fun k => ?_) ?_
  · unfold laws_eqPairS.f
    rw [if_pos rfl]
  · exact ev_up (n := l.length) (loop := fun k i => laws_eqPairS.l0 k l l (i : Int)) (r := fun _ => true)
      (Ev.step (f := fun _ => some true) (fun k => by simp [laws_eqPairS.l0]) (Ev.now true))
      (fun i hi ih => Ev.step (f := fun k => laws_eqPairS.l0 k l l ((i + 1 : Nat) : Int)) (fun k => by
        simp only [laws_eqPairS.l0]
        rw [if_pos (by omega), if_pos (by omega), if_pos (by omega), rdP_at hi, eqPair_eq, Option.bind_some, if_pos rfl, succ_cast hi h]) ih) 0 (Nat.zero_le _)

theorem eqParty_ev (n : Int) (l : List Pr) (h : l.length ≤ 9223372036854775807) : Ev (fun k => laws_eqParty.f k n l n l) true := by
  refine Ev.congr (f := fun k => (laws_eqPairS.f k l l).bind fun t => if t = true then some true else some false) (fun k => ?_) ?_
  · unfold laws_eqParty.f
    rw [if_pos rfl]
  · exact Ev.bind (f := fun _ t => if t = true then some true else some false) (eqPairS_ev l h) (ev_some (fun _ => rfl))
end Go.Proofs.Ytcdngkehajifcaa.Plain

/- The reference's test of a party. No condition but a length that fits. -/
namespace Go.Proofs.Ytcdngkehajifcaa.Plain
open Go.RowKit Go.Proofs.YtcdngkehajifcaaW.PrintWords Go.Proofs.YtcdngkehajifcaaW.PrintLast
set_option linter.unusedVariables false
open Q

/-- All pairs of n people. -/
def pairsOf (n : Nat) : List (Nat × Nat) := (List.range n).flatMap fun a => ((List.range n).filter fun b => decide (a < b)).map fun b => (a, b)

theorem pairsOf_length : ∀ n : Fin 13, (((pairsOf n.val).length : Nat) : Int) = (n.val : Int) * ((n.val : Int) - 1) / 2 := by decide +kernel

theorem mem_pairsOf {n a b : Nat} (h : a < b) (hb : b < n) : (a, b) ∈ pairsOf n := by
  unfold pairsOf
  rw [List.mem_flatMap]
  exact ⟨a, List.mem_range.mpr (by omega), List.mem_map.mpr ⟨b, List.mem_filter.mpr ⟨List.mem_range.mpr hb, by simpa using h⟩, rfl⟩⟩

/-- There are no more pairs in a party than pairs of its people. -/
theorem party_len {n : Nat} {l : List Pr} (hn : n ≤ 12) (hr : Right n l) (hs : ∀ i j, (hj : j < l.length) → (hij : i < j) → lessB l[i] l[j] = true) : (l.length : Int) ≤ (n : Int) * ((n : Int) - 1) / 2 := by
  have hnd : (l.map fun x => (x.f0.toNat, x.f1.toNat)).Nodup := by
    rw [List.nodup_iff_pairwise_ne, List.pairwise_iff_getElem]
    intro i j hi hj hij e
    simp only [List.length_map] at hi hj
    simp only [List.getElem_map, Prod.mk.injEq] at e
    have s := hs i j hj hij
    have r1 := hr _ (List.getElem_mem hi)
    have r2 := hr _ (List.getElem_mem hj)
    unfold lessB at s
    simp only [Bool.or_eq_true, Bool.and_eq_true, decide_eq_true_eq] at s
    omega
  have hsub : (l.map fun x => (x.f0.toNat, x.f1.toNat)) ⊆ pairsOf n := by
    intro p hp
    obtain ⟨x, hx, rfl⟩ := List.mem_map.1 hp
    have := hr x hx
    exact mem_pairsOf (by omega) (by omega)
  have h1 := List.Nodup.length_le_of_subset hnd hsub
  rw [List.length_map] at h1
  have h2 := pairsOf_length ⟨n, by omega⟩
  simp only [] at h2
  omega

theorem bound_eq {n : Int} (h0 : 0 ≤ n) (h1 : n ≤ 12) : wrap64 (Int.tdiv (wrap64 (n * (wrap64 (n - 1)))) 2) = n * (n - 1) / 2 := by
  have : n = 0 ∨ n = 1 ∨ n = 2 ∨ n = 3 ∨ n = 4 ∨ n = 5 ∨ n = 6 ∨ n = 7 ∨ n = 8 ∨ n = 9 ∨ n = 10 ∨ n = 11 ∨ n = 12 := by omega
  rcases this with rfl | rfl | rfl | rfl | rfl | rfl | rfl | rfl | rfl | rfl | rfl | rfl | rfl <;> decide +kernel

theorem paPeople_eq (n : Int) : spec_paPeople.f n = some (decide (0 ≤ n) && decide (n ≤ 12)) := by
  unfold spec_paPeople.f
  rw [l1In_eq]; rfl

theorem paGood_l0 (n : Int) (l : List Pr) (h0 : 0 ≤ n) (h1 : n ≤ 12) (h : l.length ≤ 9223372036854775807) : Ev (fun k => spec_paGood.l0 k l (l.length : Int) 0 n l) ((List.range l.length).all (okAt n l)) := by
  have q := ev_up (n := l.length) (loop := fun k i => spec_paGood.l0 k l (l.length : Int) (i : Int) n l) (r := fun i => ((List.range l.length).drop i).all (okAt n l))
    (Ev.step (f := fun _ => some true) (fun k => by simp only [spec_paGood.l0]; rw [if_neg (by omega)]) (by rw [all_end _ (Nat.le_refl _)]; exact Ev.now _))
    (fun i hi ih => by
      rw [all_step (okAt n l) hi]
      have e0 : okAt n l i = (pairOk n l[i] && (decide (i = 0) || lessB (rdP l ((i : Int) - 1)) l[i])) := by
        unfold okAt rdP; rw [rdP_at hi]
      have wn : wrap64 (n - 1) = n - 1 := wrap_id (by omega) (by omega)
      by_cases a1 : 0 ≤ l[i].f0 ∧ l[i].f0 ≤ n - 1
      · have w1 : wrap64 (l[i].f0 + 1) = l[i].f0 + 1 := wrap_id (by omega) (by omega)
        have b1 : (decide (0 ≤ l[i].f0) && decide (l[i].f0 ≤ n - 1)) = true := by simpa using a1
        by_cases a2 : l[i].f0 + 1 ≤ l[i].f1 ∧ l[i].f1 ≤ n - 1
        · have b2 : (decide (l[i].f0 + 1 ≤ l[i].f1) && decide (l[i].f1 ≤ n - 1)) = true := by simpa using a2
          have ep : pairOk n l[i] = true := by simp [pairOk]; omega
          by_cases a4 : i = 0
          · have e : okAt n l i = true := by rw [e0, ep, decide_eq_true a4]; simp
            rw [e]
            refine Ev.step (f := fun k => spec_paGood.l0 k l (l.length : Int) ((i + 1 : Nat) : Int) n l) (fun k => ?_) (by simpa using ih)
            simp only [spec_paGood.l0]
            rw [if_pos (by omega), if_pos (by omega), if_pos (by omega), rdP_at hi, wn, l1In_eq, b1, Option.bind_some, if_pos rfl, w1, l1In_eq, b2, Option.bind_some, if_pos rfl, if_neg (by omega), succ_cast hi h]
          · have ew : wrap64 ((i : Int) - 1) = ((i - 1 : Nat) : Int) := pred_cast (by omega) (by omega)
            have ew2 : ((i : Int) - 1) = ((i - 1 : Nat) : Int) := by omega
            have e : okAt n l i = lessB l[i-1] l[i] := by
              rw [e0, ep, decide_eq_false a4, ew2]
              unfold rdP
              rw [rdP_at (by omega)]; simp
            rw [e]
            refine Ev.step (f := fun k => if lessB l[i-1] l[i] = true then spec_paGood.l0 k l (l.length : Int) ((i + 1 : Nat) : Int) n l else some false) (fun k => ?_) ?_
            · simp only [spec_paGood.l0]
              rw [if_pos (by omega), if_pos (by omega), if_pos (by omega), rdP_at hi, wn, l1In_eq, b1, Option.bind_some, if_pos rfl, w1, l1In_eq, b2, Option.bind_some, if_pos rfl, if_pos (by omega), ew, if_pos (by omega), if_pos (by omega), rdP_at (by omega : i - 1 < l.length), paLess_eq, Option.bind_some, succ_cast hi h]
            · cases hb : lessB l[i-1] l[i] with
              | true => exact ev_if (fun _ => by simpa using ih) (fun h => absurd rfl h)
              | false => exact ev_some (fun _ => by simp)
        · have b2 : (decide (l[i].f0 + 1 ≤ l[i].f1) && decide (l[i].f1 ≤ n - 1)) = false := by
            rw [Bool.eq_false_iff]; intro q; exact a2 (by simpa using q)
          have e : okAt n l i = false := by rw [e0]; simp [pairOk]; omega
          rw [e]
          refine Ev.step (f := fun _ => some false) (fun k => ?_) (by simpa using Ev.now false)
          simp only [spec_paGood.l0]
          rw [if_pos (by omega), if_pos (by omega), if_pos (by omega), rdP_at hi, wn, l1In_eq, b1, Option.bind_some, if_pos rfl, w1, l1In_eq, b2, Option.bind_some, if_neg (by simp)]
      · have b1 : (decide (0 ≤ l[i].f0) && decide (l[i].f0 ≤ n - 1)) = false := by
          rw [Bool.eq_false_iff]; intro q; exact a1 (by simpa using q)
        have e : okAt n l i = false := by rw [e0]; simp [pairOk]; omega
        rw [e]
        refine Ev.step (f := fun _ => some false) (fun k => ?_) (by simpa using Ev.now false)
        simp only [spec_paGood.l0]
        rw [if_pos (by omega), if_pos (by omega), if_pos (by omega), rdP_at hi, wn, l1In_eq, b1, Option.bind_some, if_neg (by simp)]) 0 (Nat.zero_le _)
  simpa using q

theorem paGood_ev (n : Int) (l : List Pr) (h : l.length ≤ 9223372036854775807) : Ev (fun k => spec_paGood.f k n l) (party n l) := by
  unfold spec_paGood.f
  refine ev_bind0 (paPeople_eq n) ?_
  cases hb : (decide (0 ≤ n) && decide (n ≤ 12)) with
  | false =>
    have e : party n l = false := by unfold party; rw [hb]; rfl
    rw [e]
    refine ev_if (fun h => by simp at h) (fun _ => ?_)
    exact Ev.step (f := fun _ => some false) (fun k => by simp [spec_paGood.j0]) (Ev.now _)
  | true =>
    have hn : 0 ≤ n ∧ n ≤ 12 := by simpa using hb
    have e : party n l = (List.range l.length).all (okAt n l) := by unfold party; rw [hb]; rfl
    refine ev_if (fun _ => ?_) (fun h => absurd rfl h)
    rw [bound_eq hn.1 hn.2]
    by_cases c : (l.length : Int) > n * (n - 1) / 2
    · refine Ev.step (f := fun _ => some false) (fun k => ?_) ?_
      · simp only [spec_paGood.j0]
        rw [if_pos (decide_eq_true c)]
      · cases hp : party n l with
        | false => exact Ev.now _
        | true =>
          exfalso
          obtain ⟨m, rfl, h12, hr, hs⟩ := party_right hp
          have := party_len h12 hr hs
          omega
    · rw [e]
      refine Ev.step (f := fun k => spec_paGood.l0 k l (l.length : Int) 0 n l) (fun k => ?_) (paGood_l0 n l hn.1 hn.2 h)
      simp only [spec_paGood.j0]
      rw [if_neg (by simpa using c)]
end Go.Proofs.Ytcdngkehajifcaa.Plain

/- The laws' marks: written into a list and found again. No condition but a length that fits. -/
namespace Go.Proofs.Ytcdngkehajifcaa.Plain
open Go.RowKit Go.Proofs.YtcdngkehajifcaaW.PrintWords Go.Proofs.YtcdngkehajifcaaW.PrintLast
set_option linter.unusedVariables false
open Q

/-- The marks of n pairs from v on. -/
def marksP (v : Int) (n : Nat) : List Pr := (List.range n).map fun i : Nat => ⟨v + 2 * (i : Int), v + 2 * (i : Int) + 1⟩
/-- The marks of n numbers from v on. -/
def marksI (v : Int) (n : Nat) : List Int := (List.range n).map fun i : Nat => v + (i : Int)
theorem marksP_length (v : Int) (n : Nat) : (marksP v n).length = n := by simp [marksP]
theorem marksI_length (v : Int) (n : Nat) : (marksI v n).length = n := by simp [marksI]
theorem marksP_get {v : Int} {n i : Nat} (h : i < (marksP v n).length) : (marksP v n)[i] = ⟨v + 2 * (i : Int), v + 2 * (i : Int) + 1⟩ := by simp [marksP]
theorem marksI_get {v : Int} {n i : Nat} (h : i < (marksI v n).length) : (marksI v n)[i] = v + (i : Int) := by simp [marksI]

theorem marksP_step (v : Int) (l : List Pr) {i : Nat} (hi : i < l.length) (x : Pr) (hx : x = ⟨v + 2 * (i : Int), v + 2 * (i : Int) + 1⟩) : (marksP v i ++ l.drop i).set i x = marksP v (i + 1) ++ l.drop (i + 1) := by
  apply List.ext_getElem
  · simp [marksP_length]; omega
  · intro j h1 h2
    rw [List.getElem_set]
    by_cases e : i = j
    · subst e
      rw [if_pos rfl, List.getElem_append_left (by rw [marksP_length]; omega), marksP_get, hx]
    · rw [if_neg e]
      by_cases c : j < i
      · rw [List.getElem_append_left (by rw [marksP_length]; omega), List.getElem_append_left (by rw [marksP_length]; omega), marksP_get, marksP_get]
      · rw [List.getElem_append_right (by rw [marksP_length]; omega), List.getElem_append_right (by rw [marksP_length]; omega), List.getElem_drop, List.getElem_drop]
        congr 1
        rw [marksP_length, marksP_length]
        omega
theorem marksI_step (v : Int) (l : List Int) {i : Nat} (hi : i < l.length) : (marksI v i ++ l.drop i).set i (v + (i : Int)) = marksI v (i + 1) ++ l.drop (i + 1) := by
  apply List.ext_getElem
  · simp [marksI_length]; omega
  · intro j h1 h2
    rw [List.getElem_set]
    by_cases e : i = j
    · subst e
      rw [if_pos rfl, List.getElem_append_left (by rw [marksI_length]; omega), marksI_get]
    · rw [if_neg e]
      by_cases c : j < i
      · rw [List.getElem_append_left (by rw [marksI_length]; omega), List.getElem_append_left (by rw [marksI_length]; omega), marksI_get, marksI_get]
      · rw [List.getElem_append_right (by rw [marksI_length]; omega), List.getElem_append_right (by rw [marksI_length]; omega), List.getElem_drop, List.getElem_drop]
        congr 1
        rw [marksI_length, marksI_length]
        omega

theorem markPairS_ev (l : List Pr) (v : Int) (h : l.length ≤ 1152921504606846976) (h0 : 0 ≤ v) (h1 : v ≤ 1000) : Ev (fun k => laws_markPairS.f k l v) (v + 2 * (l.length : Int), marksP v l.length) := by
  have q := ev_up (n := l.length) (loop := fun k i => laws_markPairS.l0 k (marksP v i ++ l.drop i) (v + 2 * (i : Int)) (i : Int)) (r := fun _ => (v + 2 * (l.length : Int), marksP v l.length))
    (by
      refine Ev.step (f := fun _ => some (v + 2 * (l.length : Int), marksP v l.length)) (fun k => ?_) (Ev.now _)
      simp only [laws_markPairS.l0]
      rw [List.drop_length, List.append_nil, if_neg (by rw [marksP_length]; omega)])
    (fun i hi ih => by
      have hlen : (marksP v i ++ l.drop i).length = l.length := by rw [List.length_append, marksP_length, List.length_drop]; omega
      have w1 : wrap64 (v + 2 * (i : Int) + 1) = v + 2 * (i : Int) + 1 := wrap_id (by omega) (by omega)
      have w2 : wrap64 (v + 2 * (i : Int) + 1 + 1) = v + 2 * ((i + 1 : Nat) : Int) := by rw [wrap_id (by omega) (by omega)]; omega
      refine Ev.step (f := fun k => laws_markPairS.l0 k (marksP v (i + 1) ++ l.drop (i + 1)) (v + 2 * ((i + 1 : Nat) : Int)) ((i + 1 : Nat) : Int)) (fun k => ?_) ih
      simp only [laws_markPairS.l0]
      rw [if_pos (by rw [hlen]; omega), if_pos (by omega), Option.bind_some, w1, w2, succ_cast hi (by omega), Int.toNat_natCast, List.set_set]
      rw [marksP_step v l hi _ (by rw [rdP_at (by rw [List.length_set, hlen]; exact hi), List.getElem_set_self])]) 0 (Nat.zero_le _)
  have e : marksP v 0 ++ l.drop 0 = l := by simp [marksP]
  rw [e] at q
  simpa [laws_markPairS.f] using q

theorem markIntS_ev (l : List Int) (v : Int) (h : l.length ≤ 1152921504606846976) (h0 : 0 ≤ v) (h1 : v ≤ 1152921504606846976) : Ev (fun k => laws_markIntS.f k l v) (v + (l.length : Int), marksI v l.length) := by
  have q := ev_up (n := l.length) (loop := fun k i => laws_markIntS.l0 k (marksI v i ++ l.drop i) (v + (i : Int)) (i : Int)) (r := fun _ => (v + (l.length : Int), marksI v l.length))
    (by
      refine Ev.step (f := fun _ => some (v + (l.length : Int), marksI v l.length)) (fun k => ?_) (Ev.now _)
      simp only [laws_markIntS.l0]
      rw [List.drop_length, List.append_nil, if_neg (by rw [marksI_length]; omega)])
    (fun i hi ih => by
      have hlen : (marksI v i ++ l.drop i).length = l.length := by rw [List.length_append, marksI_length, List.length_drop]; omega
      have w1 : wrap64 (v + (i : Int) + 1) = v + ((i + 1 : Nat) : Int) := by rw [wrap_id (by omega) (by omega)]; omega
      refine Ev.step (f := fun k => laws_markIntS.l0 k (marksI v (i + 1) ++ l.drop (i + 1)) (v + ((i + 1 : Nat) : Int)) ((i + 1 : Nat) : Int)) (fun k => ?_) ih
      simp only [laws_markIntS.l0]
      rw [if_pos (by rw [hlen]; omega), if_pos (by omega), w1, succ_cast hi (by omega), Int.toNat_natCast, marksI_step v l hi]) 0 (Nat.zero_le _)
  have e : marksI v 0 ++ l.drop 0 = l := by simp [marksI]
  rw [e] at q
  simpa [laws_markIntS.f] using q

theorem heldIntS_ev (n : Nat) (v : Int) (h : n ≤ 1152921504606846976) (h0 : 0 ≤ v) (h1 : v ≤ 1152921504606846976) : Ev (fun k => laws_heldIntS.f k (marksI v n) v) (v + (n : Int)) := by
  have hl := marksI_length v n
  have q := ev_up (n := n) (loop := fun k i => laws_heldIntS.l0 k (marksI v n) (v + (i : Int)) (i : Int)) (r := fun _ => v + (n : Int))
    (Ev.step (f := fun _ => some (v + (n : Int))) (fun k => by simp only [laws_heldIntS.l0]; rw [if_neg (by rw [hl]; omega)]) (Ev.now _))
    (fun i hi ih => by
      have w1 : wrap64 (v + (i : Int) + 1) = v + ((i + 1 : Nat) : Int) := by rw [wrap_id (by omega) (by omega)]; omega
      refine Ev.step (f := fun k => laws_heldIntS.l0 k (marksI v n) (v + ((i + 1 : Nat) : Int)) ((i + 1 : Nat) : Int)) (fun k => ?_) ih
      simp only [laws_heldIntS.l0]
      rw [if_pos (by rw [hl]; omega), if_pos (by omega), rd_at (by rw [hl]; exact hi), marksI_get, if_pos rfl, w1, succ_cast hi (by omega)]) 0 (Nat.zero_le _)
  simpa [laws_heldIntS.f] using q

theorem markParty_ev (n : Int) (l : List Pr) (h : l.length ≤ 1152921504606846976) : Ev (fun k => laws_markParty.f k n l 1) (1 + 2 * (l.length : Int), marksP 1 l.length) := by
  unfold laws_markParty.f
  exact Ev.bind (f := fun _ bt => some (bt.1, bt.2)) (markPairS_ev l 1 h (by omega) (by omega)) (Ev.now _)

end Go.Proofs.Ytcdngkehajifcaa.Plain

/- The law's own functions over lists of lists of whole numbers. No condition but lengths that fit. -/
namespace Go.Proofs.Ytcdngkehajifcaa.Plain
open Go.RowKit Go.Proofs.YtcdngkehajifcaaW.PrintWords Go.Proofs.YtcdngkehajifcaaW.PrintLast
set_option linter.unusedVariables false
open Q

theorem rdL_at {l : List (List Int)} {i : Nat} (h : i < l.length) : rd_L5 l (i : Int) = l[i] := by
  simp [rd_L5, List.getD, h]

theorem eqIntSS_ev (l : List (List Int)) (h : l.length ≤ 9223372036854775807) (hx : ∀ x ∈ l, x.length ≤ 9223372036854775807) : Ev (fun k => laws_eqIntSS.f k l l) true := by
  refine Ev.congr (f := fun k => laws_eqIntSS.l0 k l l 0) (fun k => ?_) ?_
  · unfold laws_eqIntSS.f
    rw [if_pos rfl]
  · exact ev_up (n := l.length) (loop := fun k i => laws_eqIntSS.l0 k l l (i : Int)) (r := fun _ => true)
      (Ev.step (f := fun _ => some true) (fun k => by simp [laws_eqIntSS.l0]) (Ev.now true))
      (fun i hi ih => by
        refine Ev.step (f := fun k => (laws_eqIntS.f k l[i] l[i]).bind fun t => if t = true then laws_eqIntSS.l0 k l l ((i + 1 : Nat) : Int) else some false) (fun k => ?_) ?_
        · simp only [laws_eqIntSS.l0]
          rw [if_pos (by omega), if_pos (by omega), if_pos (by omega), rdL_at hi, succ_cast hi h]
        · refine Ev.bind (eqIntS_ev l[i] (hx _ (List.getElem_mem hi))) ?_
          exact ev_if (fun _ => ih) (fun h => absurd rfl h)) 0 (Nat.zero_le _)
end Go.Proofs.Ytcdngkehajifcaa.Plain

/- The laws' marks over rows of rows: written and found again. No condition but sizes that fit. -/
namespace Go.Proofs.Ytcdngkehajifcaa.Plain
open Go.RowKit Go.Proofs.YtcdngkehajifcaaW.PrintWords Go.Proofs.YtcdngkehajifcaaW.PrintLast
set_option linter.unusedVariables false
open Q

def totR : List (List Int) → Nat
  | [] => 0
  | r :: l => r.length + totR l
def markRows : Int → List (List Int) → List (List Int)
  | _, [] => []
  | v, r :: l => marksI v r.length :: markRows (v + (r.length : Int)) l
theorem markIntSS_at : ∀ (l p : List (List Int)) (v : Int), 0 ≤ v → v + (totR l : Int) ≤ 1152921504606846976 → p.length + l.length ≤ 1152921504606846976 →
    Ev (fun k => laws_markIntSS.l0 k (p ++ l) v (p.length : Int)) (v + (totR l : Int), p ++ markRows v l)
  | [], p, v, h0, h1, h2 => by
    refine Ev.step (f := fun _ => some (v, p)) (fun k => ?_) (by simpa [totR, markRows] using Ev.now (v, p))
    simp only [laws_markIntSS.l0]
    rw [if_neg (by simp), List.append_nil]
  | r :: l, p, v, h0, h1, h2 => by
    simp only [totR] at h1
    simp only [List.length_cons] at h2
    have ih := markIntSS_at l (p ++ [marksI v r.length]) (v + (r.length : Int)) (by omega) (by omega) (by rw [List.length_append, List.length_singleton]; omega)
    rw [List.length_append, List.length_singleton, List.append_assoc, List.append_assoc, List.singleton_append, List.singleton_append] at ih
    refine Ev.step (f := fun k => (laws_markIntS.f k r v).bind fun t => laws_markIntSS.l0 k (p ++ t.2 :: l) t.1 ((p.length + 1 : Nat) : Int)) (fun k => ?_) ?_
    · simp only [laws_markIntSS.l0]
      rw [if_pos (by rw [List.length_append, List.length_cons]; omega), if_pos (by omega), Int.toNat_natCast, wrap_id (by omega) (by omega)]
      have e1 : (p ++ r :: l).getD p.length [] = r := by simp
      rw [e1]
      congr 1
      funext t
      rw [show ((p.length : Int) + 1) = ((p.length + 1 : Nat) : Int) by omega]
      congr 1
      simp
    · refine Ev.bind (markIntS_ev r v (by omega) h0 (by omega)) ?_
      simp only [totR, markRows]
      rw [show v + ((r.length + totR l : Nat) : Int) = v + (r.length : Int) + (totR l : Int) by omega]
      exact ih
theorem markIntSS_ev (l : List (List Int)) (h : totR l ≤ 1048576) (h2 : l.length ≤ 1048576) : Ev (fun k => laws_markIntSS.f k l 1) (1 + (totR l : Int), markRows 1 l) := by
  have := markIntSS_at l [] 1 (by omega) (by omega) (by rw [List.length_nil]; omega)
  simpa [laws_markIntSS.f] using this
theorem heldIntSS_at : ∀ (l p : List (List Int)) (v : Int), 0 ≤ v → v + (totR l : Int) ≤ 1152921504606846976 → p.length + l.length ≤ 1152921504606846976 →
    Ev (fun k => laws_heldIntSS.l0 k (p ++ markRows v l) v (p.length : Int)) (v + (totR l : Int))
  | [], p, v, h0, h1, h2 => by
    refine Ev.step (f := fun _ => some v) (fun k => ?_) (by simpa [totR] using Ev.now v)
    simp only [laws_heldIntSS.l0]
    rw [if_neg (by simp [markRows])]
  | r :: l, p, v, h0, h1, h2 => by
    simp only [totR] at h1
    simp only [List.length_cons] at h2
    have ih := heldIntSS_at l (p ++ [marksI v r.length]) (v + (r.length : Int)) (by omega) (by omega) (by rw [List.length_append, List.length_singleton]; omega)
    rw [List.length_append, List.length_singleton, List.append_assoc, List.singleton_append] at ih
    show Ev (fun k => laws_heldIntSS.l0 k (p ++ marksI v r.length :: markRows (v + (r.length : Int)) l) v (p.length : Int)) (v + (totR (r :: l) : Int))
    refine Ev.step (f := fun k => (laws_heldIntS.f k (marksI v r.length) v).bind fun t => if t < 0 then some (-1) else laws_heldIntSS.l0 k (p ++ marksI v r.length :: markRows (v + (r.length : Int)) l) t ((p.length + 1 : Nat) : Int)) (fun k => ?_) ?_
    · simp only [laws_heldIntSS.l0]
      rw [if_pos (by rw [List.length_append, List.length_cons]; omega), if_pos (by omega), rdL_at (by rw [List.length_append, List.length_cons]; omega), wrap_id (by omega) (by omega)]
      rw [List.getElem_append_right (Nat.le_refl _)]
      simp
    · refine Ev.bind (heldIntS_ev r.length v (by omega) h0 (by omega)) ?_
      refine ev_if (fun q => by omega) (fun _ => ?_)
      simp only [totR]
      rw [show v + ((r.length + totR l : Nat) : Int) = v + (r.length : Int) + (totR l : Int) by omega]
      exact ih
theorem heldIntSS_ev (l : List (List Int)) (h : totR l ≤ 1048576) (h2 : l.length ≤ 1048576) : Ev (fun k => laws_heldIntSS.f k (markRows 1 l) 1) (1 + (totR l : Int)) := by
  have := heldIntSS_at l [] 1 (by omega) (by omega) (by rw [List.length_nil]; omega)
  simpa [laws_heldIntSS.f] using this
end Go.Proofs.Ytcdngkehajifcaa.Plain

/- math/bits.OnesCount16 over a set of people, and the numbers of friends. No condition. -/
namespace Go.Proofs.Ytcdngkehajifcaa.Plain
open Go.RowKit Go.Proofs.YtcdngkehajifcaaW.PrintWords Go.Proofs.YtcdngkehajifcaaW.PrintLast
set_option linter.unusedVariables false
open Q

/-- How many bits of a number are set. -/
def pop (k m : Nat) : Nat := cnt (fun b => m.testBit b) k

set_option maxRecDepth 100000 in
theorem pop_table : ∀ i : Fin 256, bt (⟨#[0, 1, 1, 2, 1, 2, 2, 3, 1, 2, 2, 3, 2, 3, 3, 4, 1, 2, 2, 3, 2, 3, 3, 4, 2, 3, 3, 4, 3, 4, 4, 5, 1, 2, 2, 3, 2, 3, 3, 4, 2, 3, 3, 4, 3, 4, 4, 5, 2, 3, 3, 4, 3, 4, 4, 5, 3, 4, 4, 5, 4, 5, 5, 6, 1, 2, 2, 3, 2, 3, 3, 4, 2, 3, 3, 4, 3, 4, 4, 5, 2, 3, 3, 4, 3, 4, 4, 5, 3, 4, 4, 5, 4, 5, 5, 6, 2, 3, 3, 4, 3, 4, 4, 5, 3, 4, 4, 5, 4, 5, 5, 6, 3, 4, 4, 5, 4, 5, 5, 6, 4, 5, 5, 6, 5, 6, 6, 7, 1, 2, 2, 3, 2, 3, 3, 4, 2, 3, 3, 4, 3, 4, 4, 5, 2, 3, 3, 4, 3, 4, 4, 5, 3, 4, 4, 5, 4, 5, 5, 6, 2, 3, 3, 4, 3, 4, 4, 5, 3, 4, 4, 5, 4, 5, 5, 6, 3, 4, 4, 5, 4, 5, 5, 6, 4, 5, 5, 6, 5, 6, 6, 7, 2, 3, 3, 4, 3, 4, 4, 5, 3, 4, 4, 5, 4, 5, 5, 6, 3, 4, 4, 5, 4, 5, 5, 6, 4, 5, 5, 6, 5, 6, 6, 7, 3, 4, 4, 5, 4, 5, 5, 6, 4, 5, 5, 6, 5, 6, 6, 7, 4, 5, 5, 6, 5, 6, 6, 7, 5, 6, 6, 7, 6, 7, 7, 8]⟩ : ByteArray) (i.val : Int) = (pop 8 i.val : Int) := by decide +kernel

theorem pop_le (k m : Nat) : pop k m ≤ k := cnt_le _ _
theorem pop_split (m : Nat) : pop 16 m = pop 8 (m / 256) + pop 8 (m % 256) := by
  have h : ∀ k, k ≤ 8 → pop (8 + k) m = pop k (m / 256) + pop 8 m := by
    intro k
    induction k with
    | zero => intro _; simp [pop, cnt_zero]
    | succ k ih =>
      intro hk
      have q := ih (by omega)
      unfold pop at q ⊢
      rw [show 8 + (k + 1) = (8 + k) + 1 by omega, cnt_succ, cnt_succ, q]
      have e : (m / 256).testBit k = m.testBit (8 + k) := by
        rw [show 256 = 2 ^ 8 by rfl, Nat.testBit_div_two_pow, Nat.add_comm]
      rw [e]; omega
  have e2 : pop 8 (m % 256) = pop 8 m := by
    unfold pop
    apply cnt_congr
    intro b hb
    rw [show 256 = 2 ^ 8 by rfl, Nat.testBit_mod_two_pow]
    simp [hb]
  have := h 8 (by omega)
  rw [e2]
  exact this

set_option maxRecDepth 100000 in
theorem onesCount_eq {m : Nat} (h : m < 2 ^ 16) : bits_OnesCount16.f (m : Int) = some ((pop 16 m : Nat) : Int) := by
  unfold bits_OnesCount16.f
  have e1 : (m : Int) / 256 = ((m / 256 : Nat) : Int) := by omega
  have e2 : Go.bits .and .u16 (m : Int) 255 = ((m % 256 : Nat) : Int) := by
    rw [show (255 : Int) = ((255 : Nat) : Int) by rfl, and16 h (by omega), show (255 : Nat) = 2 ^ 8 - 1 by rfl, Nat.and_two_pow_sub_one_eq_mod]
  rw [e1, e2]
  have t1 := pop_table ⟨m / 256, by omega⟩
  have t2 := pop_table ⟨m % 256, by omega⟩
  simp only [] at t1 t2
  rw [if_pos (by omega), if_pos (by omega), if_pos (by omega), if_pos (by omega), t1, t2, pop_split]
  have h1 := pop_le 8 (m / 256)
  have h2 := pop_le 8 (m % 256)
  congr 1
  omega

theorem pop_mask {f : Nat → Bool} {n : Nat} (h : n ≤ 16) : pop 16 (maskOf f n) = cnt f n := by
  unfold pop
  rw [show (16 : Nat) = n + (16 - n) by omega, ← cnt_ext f n (16 - n)]
  apply cnt_congr
  intro b _
  rw [maskOf_bit]

theorem count_mask {f : Nat → Bool} {n : Nat} (h : n ≤ 16) : bits_OnesCount16.f ((maskOf f n : Nat) : Int) = some ((cnt f n : Nat) : Int) := by
  rw [onesCount_eq (mask16 h), pop_mask h]
end Go.Proofs.Ytcdngkehajifcaa.Plain

/- Counting over people: sums, and that parties of at most twelve people in which each two have just one common friend are windmills. Plain lemmas. Conditions: the relation is symmetric, nobody is a friend of oneself, and the numbers of friends are even together. -/
namespace Go.Proofs.Ytcdngkehajifcaa.Plain
open Go.RowKit Go.Proofs.YtcdngkehajifcaaW.PrintWords Go.Proofs.YtcdngkehajifcaaW.PrintLast
set_option linter.unusedVariables false
open Q

/-! Sums. -/
/-! How many hold: those that do. -/
/-! Each two have just one friend in common. -/
section
variable {n : Nat} {f : Nat → Nat → Bool}
def com (f : Nat → Nat → Bool) (n a b : Nat) : Nat := cnt (fun c => f a c && f b c) n
end
end Go.Proofs.Ytcdngkehajifcaa.Plain

/- The program's IsFriendly. No condition but a length that fits. -/
namespace Go.Proofs.Ytcdngkehajifcaa.Plain
open Go.RowKit Go.Proofs.YtcdngkehajifcaaW.PrintWords Go.Proofs.YtcdngkehajifcaaW.PrintLast
set_option linter.unusedVariables false
open Q

theorem common_eq {n : Nat} (hn : n ≤ 12) (f : Nat → Nat → Bool) {a b : Nat} (ha : a < n) (hb : b < n) : impl_table_common.f (tabF n f) (a : Int) (b : Int) = some ((com f n a b : Nat) : Int) := by
  unfold impl_table_common.f
  rw [if_pos (by omega), if_pos (by rw [tabF_length]; omega), if_pos (by omega), if_pos (by rw [tabF_length]; omega), tabF_get ha, tabF_get hb, and16 (mask16 (by omega)) (mask16 (by omega)), mask_and, count_mask (by omega)]
  rfl

end Go.Proofs.Ytcdngkehajifcaa.Plain

/- The reference's common friends and its friendliness. No condition but that there are at most twelve people. -/
namespace Go.Proofs.Ytcdngkehajifcaa.Plain
open Go.RowKit Go.Proofs.YtcdngkehajifcaaW.PrintWords Go.Proofs.YtcdngkehajifcaaW.PrintLast
set_option linter.unusedVariables false
open Q

/-- The common friends of two. -/
def comL (n : Nat) (f : Nat → Nat → Bool) (a b : Nat) : List Int := ((List.range n).filter fun c => f a c && f b c).map fun c : Nat => (c : Int)
theorem comL_length (n : Nat) (f : Nat → Nat → Bool) (a b : Nat) : (comL n f a b).length = com f n a b := by
  unfold comL com cnt
  rw [List.length_map, List.countP_eq_length_filter]

theorem cfCommon_ev {n : Nat} (hn : n ≤ 12) (f : Nat → Nat → Bool) {a b : Nat} (ha : a < n) (hb : b < n) : Ev (fun k => spec_cfCommon.f k (tabB n f) (a : Int) (b : Int)) (comL n f a b) := by
  unfold spec_cfCommon.f
  rw [tabB_length]
  have la : (rd_L4 (tabB n f) (a : Int)).length = n := by rw [tabB_get ha, rowB_length]
  have lb : (rd_L4 (tabB n f) (b : Int)).length = n := by rw [tabB_get hb, rowB_length]
  have va : ∀ c, c < n → rdOf false (rd_L4 (tabB n f) (a : Int)) (c : Int) = f a c := fun c hc => by rw [rdOfB_at (by rw [la]; exact hc)]; simp only [tabB_get ha, rowB_get]
  have vb : ∀ c, c < n → rdOf false (rd_L4 (tabB n f) (b : Int)) (c : Int) = f b c := fun c hc => by rw [rdOfB_at (by rw [lb]; exact hc)]; simp only [tabB_get hb, rowB_get]
  have q : ∀ d i acc, i ≤ n → n - i = d → List.length acc ≤ i → Ev (fun k => spec_cfCommon.l0 k (tabB n f) (a : Int) (b : Int) acc (n : Int) (i : Int)) (acc ++ (((List.range n).drop i).filter fun c => f a c && f b c).map fun c : Nat => (c : Int)) := by
    intro d
    induction d with
    | zero =>
      intro i acc hi hd _
      have e : i = n := by omega
      subst e
      rw [List.drop_of_length_le (by simp)]
      refine Ev.step (f := fun _ => some acc) (fun k => ?_) (by simpa using Ev.now acc)
      simp only [spec_cfCommon.l0]
      rw [if_neg (by omega)]
    | succ d ih =>
      intro i acc hi hd hacc
      have hin : i < n := by omega
      rw [List.drop_eq_getElem_cons (by simpa using hin), List.getElem_range]
      by_cases c1 : f a i = true
      · by_cases c2 : f b i = true
        · refine Ev.step (f := fun k => spec_cfCommon.l0 k (tabB n f) (a : Int) (b : Int) (acc ++ [(i : Int)]) (n : Int) ((i + 1 : Nat) : Int)) (fun k => ?_) (by
            have := ih (i + 1) (acc ++ [(i : Int)]) (by omega) (by omega) (by simp; omega)
            rw [List.filter_cons_of_pos (by simp [c1, c2])]
            simpa using this)
          simp only [spec_cfCommon.l0]
          rw [if_pos (by omega), if_pos (by omega), if_pos (by rw [tabB_length]; omega), if_pos (by omega), if_pos (by rw [la]; omega), va i hin, if_pos c1, if_pos (by omega), if_pos (by rw [tabB_length]; omega), if_pos (by rw [lb]; omega), vb i hin, if_pos c2, if_pos (by omega), succ_cast hin (by omega)]
        · refine Ev.step (f := fun k => spec_cfCommon.l0 k (tabB n f) (a : Int) (b : Int) acc (n : Int) ((i + 1 : Nat) : Int)) (fun k => ?_) (by
            rw [List.filter_cons_of_neg (by simp [c2])]
            exact ih (i + 1) acc (by omega) (by omega) (by omega))
          simp only [spec_cfCommon.l0]
          rw [if_pos (by omega), if_pos (by omega), if_pos (by rw [tabB_length]; omega), if_pos (by omega), if_pos (by rw [la]; omega), va i hin, if_pos c1, if_pos (by omega), if_pos (by rw [tabB_length]; omega), if_pos (by rw [lb]; omega), vb i hin, if_neg c2, succ_cast hin (by omega)]
      · refine Ev.step (f := fun k => spec_cfCommon.l0 k (tabB n f) (a : Int) (b : Int) acc (n : Int) ((i + 1 : Nat) : Int)) (fun k => ?_) (by
          rw [List.filter_cons_of_neg (by simp [c1])]
          exact ih (i + 1) acc (by omega) (by omega) (by omega))
        simp only [spec_cfCommon.l0]
        rw [if_pos (by omega), if_pos (by omega), if_pos (by rw [tabB_length]; omega), if_pos (by omega), if_pos (by rw [la]; omega), va i hin, if_neg c1, succ_cast hin (by omega)]
  have := q n 0 [] (Nat.zero_le _) rfl (by simp)
  simpa [comL] using this

end Go.Proofs.Ytcdngkehajifcaa.Plain

/- How many friends each two have in common, row by row: both sides. No condition but a party of twelve at the most. -/
namespace Go.Proofs.Ytcdngkehajifcaa.Plain
open Go.RowKit Go.Proofs.YtcdngkehajifcaaW.PrintWords Go.Proofs.YtcdngkehajifcaaW.PrintLast
set_option linter.unusedVariables false
open Q

def rowC (n : Nat) (f : Nat → Nat → Bool) (a : Nat) : List Int := (List.range n).map fun b => ((com f n a b : Nat) : Int)
def rowsC (n : Nat) (f : Nat → Nat → Bool) : List (List Int) := (List.range n).map fun a => rowC n f a
theorem rowC_length (n : Nat) (f : Nat → Nat → Bool) (a : Nat) : (rowC n f a).length = n := by simp [rowC]
theorem rowsC_length (n : Nat) (f : Nat → Nat → Bool) : (rowsC n f).length = n := by simp [rowsC]
theorem comRows_impl {n : Nat} (hn : n ≤ 12) (f : Nat → Nat → Bool) : Ev (fun k => impl_CommonTable.l0 k (tabF n f) [] (n : Int) 0) (rowsC n f, true) := by
  have q := ev_up (n := n) (loop := fun k i => impl_CommonTable.l0 k (tabF n f) ((rowsC n f).take i) (n : Int) (i : Int)) (r := fun _ => (rowsC n f, true))
    (Ev.step (f := fun _ => some (rowsC n f, true)) (fun k => by simp only [impl_CommonTable.l0]; rw [if_neg (by omega), List.take_of_length_le (by rw [rowsC_length]; omega)]) (Ev.now _))
    (fun i hi ih => by
      have q1 := ev_up (n := n) (loop := fun k j => impl_CommonTable.l1 k (tabF n f) ((rowsC n f).take i) (i : Int) ((rowC n f i).take j) (n : Int) (i : Int) (n : Int) (j : Int)) (r := fun _ => (rowsC n f, true))
        (Ev.step (f := fun k => impl_CommonTable.l0 k (tabF n f) ((rowsC n f).take (i + 1)) (n : Int) ((i + 1 : Nat) : Int)) (fun k => by
          simp only [impl_CommonTable.l1]
          rw [if_neg (by omega), if_pos (by rw [List.length_take, rowsC_length]; omega), List.take_of_length_le (l := rowC n f i) (by rw [rowC_length]; omega), succ_cast hi (by omega), List.take_succ_eq_append_getElem (l := rowsC n f) (by rw [rowsC_length]; exact hi)]
          simp [rowsC]) ih)
        (fun j hj ihj => by
          refine Ev.step (f := fun k => impl_CommonTable.l1 k (tabF n f) ((rowsC n f).take i) (i : Int) ((rowC n f i).take (j + 1)) (n : Int) (i : Int) (n : Int) ((j + 1 : Nat) : Int)) (fun k => ?_) ihj
          simp only [impl_CommonTable.l1]
          rw [if_pos (by omega), common_eq hn f hi hj, Option.bind_some, if_pos (by rw [List.length_take, rowC_length]; omega), succ_cast hj (by omega), List.take_succ_eq_append_getElem (l := rowC n f i) (by rw [rowC_length]; exact hj)]
          simp [rowC]) 0 (Nat.zero_le _)
      refine Ev.step (f := fun k => impl_CommonTable.l1 k (tabF n f) ((rowsC n f).take i) (i : Int) [] (n : Int) (i : Int) (n : Int) 0) (fun k => ?_) (by simpa using q1)
      simp only [impl_CommonTable.l0]
      rw [if_pos (by omega), tabF_length]) 0 (Nat.zero_le _)
  simpa using q
theorem comRows_spec {n : Nat} (hn : n ≤ 12) (f : Nat → Nat → Bool) : Ev (fun k => spec_CommonTable.l0 k (tabB n f) [] (n : Int) 0) (rowsC n f, true) := by
  have q := ev_up (n := n) (loop := fun k i => spec_CommonTable.l0 k (tabB n f) ((rowsC n f).take i) (n : Int) (i : Int)) (r := fun _ => (rowsC n f, true))
    (Ev.step (f := fun _ => some (rowsC n f, true)) (fun k => by simp only [spec_CommonTable.l0]; rw [if_neg (by omega), List.take_of_length_le (by rw [rowsC_length]; omega)]) (Ev.now _))
    (fun i hi ih => by
      have q1 := ev_up (n := n) (loop := fun k j => spec_CommonTable.l1 k (tabB n f) ((rowsC n f).take i) (i : Int) ((rowC n f i).take j) (n : Int) (i : Int) (n : Int) (j : Int)) (r := fun _ => (rowsC n f, true))
        (Ev.step (f := fun k => spec_CommonTable.l0 k (tabB n f) ((rowsC n f).take (i + 1)) (n : Int) ((i + 1 : Nat) : Int)) (fun k => by
          simp only [spec_CommonTable.l1]
          rw [if_neg (by omega), if_pos (by rw [List.length_take, rowsC_length]; omega), List.take_of_length_le (l := rowC n f i) (by rw [rowC_length]; omega), succ_cast hi (by omega), List.take_succ_eq_append_getElem (l := rowsC n f) (by rw [rowsC_length]; exact hi)]
          simp [rowsC]) ih)
        (fun j hj ihj => by
          refine Ev.step (f := fun k => (spec_cfCommon.f k (tabB n f) (i : Int) (j : Int)).bind fun t => spec_CommonTable.l1 k (tabB n f) ((rowsC n f).take i) (i : Int) ((rowC n f i).take j ++ [(t.length : Int)]) (n : Int) (i : Int) (n : Int) ((j + 1 : Nat) : Int)) (fun k => ?_) ?_
          · simp only [spec_CommonTable.l1]
            rw [if_pos (by omega), succ_cast hj (by omega)]
            congr 1
            funext t
            rw [if_pos (by rw [List.length_take, rowC_length]; omega)]
          · refine Ev.bind (cfCommon_ev hn f hi hj) ?_
            rw [List.take_succ_eq_append_getElem (l := rowC n f i) (by rw [rowC_length]; exact hj)] at ihj
            rw [comL_length]
            simpa [rowC] using ihj) 0 (Nat.zero_le _)
      refine Ev.step (f := fun k => spec_CommonTable.l1 k (tabB n f) ((rowsC n f).take i) (i : Int) [] (n : Int) (i : Int) (n : Int) 0) (fun k => ?_) (by simpa using q1)
      simp only [spec_CommonTable.l0]
      rw [if_pos (by omega), show (tabB n f).length = n by simp [tabB]]) 0 (Nat.zero_le _)
  simpa using q
end Go.Proofs.Ytcdngkehajifcaa.Plain
/- The program's CommonTable returns what the reference's returns, for all arguments. No condition. -/
namespace Go.Proofs.Ytcdngkehajifcaa.Pure
open Go.RowKit Go.Proofs.YtcdngkehajifcaaW.PrintWords Go.Proofs.YtcdngkehajifcaaW.PrintLast
set_option linter.unusedVariables false
open Q Plain

def tell (n : Int) (l : List Pr) : List (List Int) × Bool := if party n l = true then (rowsC n.toNat (adj l), true) else ([], false)
theorem totR_le : ∀ (l : List (List Int)) (m : Nat), (∀ x ∈ l, x.length ≤ m) → totR l ≤ l.length * m
  | [], m, _ => by simp [totR]
  | r :: l, m, h => by
    have h1 := h r (by simp)
    have h2 := totR_le l m (fun x hx => h x (by simp [hx]))
    simp only [totR, List.length_cons]
    rw [Nat.succ_mul]
    omega
theorem tell_len (n : Int) (l : List Pr) : (tell n l).1.length ≤ 12 ∧ (∀ x ∈ (tell n l).1, x.length ≤ 12) := by
  unfold tell
  by_cases p : party n l = true
  · rw [if_pos p]
    obtain ⟨m, rfl, hm, hr, _⟩ := party_right p
    refine ⟨by rw [rowsC_length]; omega, fun x hx => ?_⟩
    unfold rowsC at hx
    obtain ⟨a, _, rfl⟩ := List.mem_map.1 hx
    rw [rowC_length]; omega
  · rw [if_neg p]; exact ⟨by simp, by simp⟩
theorem impl_ev (n : Int) (l : List Pr) (h : l.length ≤ 9223372036854775807) : Ev (fun k => impl_CommonTable.f k n l) (tell n l) := by
  unfold impl_CommonTable.f tell
  refine Ev.bind (isParty_ev n l h) ?_
  refine ev_if (fun p => ?_) (fun p => by rw [if_neg p]; exact Ev.now _)
  rw [if_pos p]
  obtain ⟨m, rfl, hm, hr, _⟩ := party_right p
  refine Ev.bind (table_ev hm hr h) ?_
  rw [tabF_length, Int.toNat_natCast]
  exact comRows_impl hm (adj l)
theorem spec_ev (n : Int) (l : List Pr) (h : l.length ≤ 9223372036854775807) : Ev (fun k => spec_CommonTable.f k n l) (tell n l) := by
  unfold spec_CommonTable.f tell
  refine Ev.bind (paGood_ev n l h) ?_
  refine ev_if (fun p => ?_) (fun p => by rw [if_neg p]; exact Ev.now _)
  rw [if_pos p]
  obtain ⟨m, rfl, hm, hr, _⟩ := party_right p
  refine Ev.bind (paTable_ev hm hr h) ?_
  rw [show (tabB m (adj l)).length = m by simp [tabB], Int.toNat_natCast]
  exact comRows_spec hm (adj l)
theorem FnExactCommonTable : laws_FnExactCommonTable.Pure := by
  intro n l _ hl _
  refine Ev.rounds (g := fun k => laws_FnExactCommonTable.f k n l) ?_
  unfold laws_FnExactCommonTable.f
  refine ev_bind0 (szParty_eq n l 1048576 (by omega) (by omega) hl) ?_
  refine ev_if (fun _ => Ev.now _) (fun hb => ?_)
  have hs : l.length ≤ 1048576 := by
    by_cases h : (1048576 : Int) < (l.length : Int)
    · rw [if_pos h] at hb; omega
    · omega
  have hTl := toParty_ev n l (by omega)
  have hl2 : (l.map toP).length ≤ 1048576 := by rw [List.length_map]; exact hs
  have hS := spec_ev n (l.map toP) (by omega)
  have hI := impl_ev n (l.map toP) (by omega)
  have hp := tell_len n (l.map toP)
  generalize tell n (l.map toP) = z at hS hI hp
  obtain ⟨ps, ok1⟩ := z
  obtain ⟨hp1, hp2⟩ := hp
  replace hp1 : ps.length ≤ 12 := hp1
  replace hp2 : ∀ x ∈ ps, x.length ≤ 12 := hp2
  have ht : totR ps ≤ 144 := Nat.le_trans (totR_le ps 12 hp2) (by omega)
  have hE := eqIntSS_ev ps (by omega) (fun x hx => by have := hp2 x hx; omega)
  have hM := markIntSS_ev ps (by omega) (by omega)
  have hH := heldIntSS_ev ps (by omega) (by omega)
  refine Ev.bind hTl ?_
  refine Ev.bind hS ?_
  refine Ev.bind hTl ?_
  refine Ev.bind hI ?_
  refine Ev.bind hE ?_
  refine ev_if (fun _ => ?_) (fun h => absurd rfl h)
  show Ev (fun k => laws_FnExactCommonTable.j0 k ps ok1 ps ok1 (ok1 != ok1) n l n (l.map toP)) true
  rw [show (ok1 != ok1) = false by simp]
  refine Ev.step (f := fun k => (laws_toParty.f k n l).bind fun bt259 => ((laws_eqParty.f k n (l.map toP) bt259.1 bt259.2).bind fun t263 => (if t263 = true then ((laws_markParty.f k n (l.map toP) 1).bind fun bt264 => (if bt264.1 < 0 then (laws_FnExactCommonTable.j1 k ps ok1 ps true n l) else ((laws_eqIntSS.f k ps ps).bind fun t266 => (if t266 = true then (laws_FnExactCommonTable.j1 k ps ok1 ps (ok1 != ok1) n l) else (laws_FnExactCommonTable.j1 k ps ok1 ps true n l))))) else (some false)))) (fun k => by simp only [laws_FnExactCommonTable.j0]; rfl) ?_
  refine Ev.bind hTl ?_
  refine Ev.bind (eqParty_ev n (l.map toP) (by simp only [List.length_map]; omega)) ?_
  refine ev_if (fun _ => ?_) (fun h => absurd rfl h)
  refine Ev.bind (markParty_ev n (l.map toP) (by simp only [List.length_map]; omega)) ?_
  refine ev_if (fun (q : (1 + 2 * ((l.map toP).length : Int)) < 0) => by omega) (fun _ => ?_)
  refine Ev.bind hE ?_
  refine ev_if (fun _ => ?_) (fun h => absurd rfl h)
  show Ev (fun k => laws_FnExactCommonTable.j1 k ps ok1 ps (ok1 != ok1) n l) true
  rw [show (ok1 != ok1) = false by simp]
  refine Ev.step (f := fun k => (laws_markIntSS.f k ps 1).bind fun bt267 => ((laws_heldIntSS.f k bt267.2 1).bind fun t268 => (if t268 < 0 then (some false) else (if t268 = bt267.1 then ((laws_toParty.f k n l).bind fun bt269 => ((impl_CommonTable.f k bt269.1 bt269.2).bind fun bt273 => ((laws_eqIntSS.f k bt273.1 ps).bind fun t277 => (if t277 = true then (laws_FnExactCommonTable.j2 k bt267.2 bt267.1 (bt273.2 != ok1)) else (laws_FnExactCommonTable.j2 k bt267.2 bt267.1 true))))) else (some false))))) (fun k => by simp only [laws_FnExactCommonTable.j1]; rfl) ?_
  refine Ev.bind hM ?_
  refine Ev.bind hH ?_
  refine ev_if (fun (q : (1 + (totR ps : Int)) < 0) => by omega) (fun _ => ?_)
  refine ev_if (fun _ => ?_) (fun h => absurd rfl h)
  refine Ev.bind hTl ?_
  refine Ev.bind hI ?_
  refine Ev.bind hE ?_
  refine ev_if (fun _ => ?_) (fun h => absurd rfl h)
  show Ev (fun k => laws_FnExactCommonTable.j2 k (markRows 1 ps) (1 + (totR ps : Int)) (ok1 != ok1)) true
  rw [show (ok1 != ok1) = false by simp]
  refine Ev.step (f := fun k => (laws_heldIntSS.f k (markRows 1 ps) 1).bind fun t278 => (if t278 < 0 then (some false) else (if t278 = (1 + (totR ps : Int)) then (some true) else (some false)))) (fun k => by simp only [laws_FnExactCommonTable.j2]; rfl) ?_
  refine Ev.bind hH ?_
  refine ev_if (fun (q : (1 + (totR ps : Int)) < 0) => by omega) (fun _ => ?_)
  refine ev_if (fun _ => ?_) (fun h => absurd rfl h)
  exact Ev.now _
end Go.Proofs.Ytcdngkehajifcaa.Pure
