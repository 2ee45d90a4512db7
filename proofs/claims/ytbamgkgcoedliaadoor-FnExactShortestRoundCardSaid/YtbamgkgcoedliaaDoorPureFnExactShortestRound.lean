import Derived.Test.YtbamgkgcoedliaaDoorQ0
import Derived.Test.YtbamgkgcoedliaaDoorQ6
import Derived.Test.YtbamgkgcoedliaaDoorQ7
import Derived.Test.YtbamgkgcoedliaaDoorQ9
import Derived.Test.YtbamgkgcoedliaaDoorQ10
import Derived.Test.YtbamgkgcoedliaaDoorQ20
import Derived.Test.YtbamgkgcoedliaaDoorQ21
import Derived.Test.YtbamgkgcoedliaaDoorQ22
import Derived.Test.YtbamgkgcoedliaaDoorQ23
import Derived.Test.YtbamgkgcoedliaaDoorQ29
import Derived.Test.YtbamgkgcoedliaaDoorQ30
import Derived.Test.YtbamgkgcoedliaaDoorQ31
import Derived.Test.YtbamgkgcoedliaaDoorQ35
import Derived.Test.YtbamgkgcoedliaaDoorSayFnExactShortestRound
/- Plain lemmas over rounds, lists and whole numbers, for the pure statements of this seat. No condition. -/
namespace Go.Proofs.YtbamgkgcoedliaaDoor.Plain
open Go.RowKit Go.Proofs.YtbamgkgcoedliaaDoorW.PrintWords Go.Proofs.YtbamgkgcoedliaaDoorW.PrintLast
set_option linter.unusedVariables false

theorem wrap_id {x : Int} (h0 : -9223372036854775808 ≤ x) (h1 : x ≤ 9223372036854775807) : wrap64 x = x := by
 unfold wrap64
 omega

theorem rd_at {l : List Int} {i : Nat} (h : i < l.length) : rd l (i : Int) = l[i] := by
 simp [rd, List.getD, h]

theorem ev_some {α : Type} {g : Nat → Option α} {r : α} (h : ∀ k, g k = some r) : Ev g r := ⟨0, fun k _ => h k⟩

theorem ev_bind0 {α β : Type} {g : Option α} {f : Nat → α → Option β} {a : α} {r : β} (h : g = some a) (k : Ev (fun n => f n a) r) : Ev (fun n => g.bind (f n)) r := by
 obtain ⟨K, hK⟩ := k
 refine ⟨K, fun n hn => ?_⟩
 show g.bind (f n) = some r
 rw [h]
 exact hK n hn

theorem ev_if {α : Type} {c : Prop} [Decidable c] {f g : Nat → Option α} {r : α} (hf : c → Ev f r) (hg : ¬ c → Ev g r) : Ev (fun n => if c then f n else g n) r := by
 by_cases h : c
 ·obtain ⟨K, hK⟩ := hf h
  exact ⟨K, fun n hn => (if_pos h).trans (hK n hn)⟩
 ·obtain ⟨K, hK⟩ := hg h
  exact ⟨K, fun n hn => (if_neg h).trans (hK n hn)⟩

/-- A loop over an index, from any index on, in one shape. -/
theorem ev_up {α : Type} {n : Nat} {loop : Nat → Nat → Option α} {r : Nat → α} (hend : Ev (fun k => loop k n) (r n)) (hstep : ∀ i, i < n → (Ev (fun k => loop k (i + 1)) (r (i + 1)) → Ev (fun k => loop k i) (r i))) :
  ∀ i, i ≤ n → Ev (fun k => loop k i) (r i) := by
 intro i hi
 have : ∀ d i, i ≤ n → n - i = d → Ev (fun k => loop k i) (r i) := by
  intro d
  induction d with
  | zero =>
   intro i hi hd
   have e : i = n := by omega
   rw [e]; exact hend
  | succ d ih =>
   intro i hi hd
   exact hstep i (by omega) (ih (i + 1) (by omega) (by omega))
 exact this (n - i) i hi rfl
theorem all_step (f : Nat → Bool) {m i : Nat} (h : i < m) : ((List.range m).drop i).all f = (f i && ((List.range m).drop (i + 1)).all f) := by
 rw [List.drop_eq_getElem_cons (by simpa using h), List.all_cons, List.getElem_range]
theorem all_end (f : Nat → Bool) {m i : Nat} (h : m ≤ i) : ((List.range m).drop i).all f = true := by
 rw [List.drop_of_length_le (by simpa using h)]; rfl
theorem succ_cast {i n : Nat} (h : i < n) (hn : n ≤ 9223372036854775807) : wrap64 ((i : Int) + 1) = ((i + 1 : Nat) : Int) := by
 rw [wrap_id (by omega) (by omega)]; rfl
theorem pred_cast {i : Nat} (h : 1 ≤ i) (hn : i ≤ 9223372036854775807) : wrap64 ((i : Int) - 1) = ((i - 1 : Nat) : Int) := by
 rw [wrap_id (by omega) (by omega)]; omega
end Go.Proofs.YtbamgkgcoedliaaDoor.Plain

/- The law's own functions over lists of whole numbers: copies, equality, bounds. No condition but lengths that fit. -/
namespace Go.Proofs.YtbamgkgcoedliaaDoor.Plain
open Go.RowKit Go.Proofs.YtbamgkgcoedliaaDoorW.PrintWords Go.Proofs.YtbamgkgcoedliaaDoorW.PrintLast
set_option linter.unusedVariables false
open Q

theorem l1In_eq (a b c : Int) : spec_l1In.f a b c = some (decide (b ≤ a) && decide (a ≤ c)) := by
 unfold spec_l1In.f
 by_cases h : b ≤ a <;> simp [h]

theorem within_eq (a b c : Int) : impl_within.f a b c = some (decide (b ≤ a) && decide (a ≤ c)) := by
 unfold impl_within.f
 by_cases h : b ≤ a <;> simp [h]

end Go.Proofs.YtbamgkgcoedliaaDoor.Plain

/- Is a number in a list: the reference's way. No condition but a length that fits. -/
namespace Go.Proofs.YtbamgkgcoedliaaDoor.Plain
open Go.RowKit Go.Proofs.YtbamgkgcoedliaaDoorW.PrintWords Go.Proofs.YtbamgkgcoedliaaDoorW.PrintLast
set_option linter.unusedVariables false
open Q

end Go.Proofs.YtbamgkgcoedliaaDoor.Plain

/- Parties: both sides' tests, and the law's own functions over parties. No condition but lengths that fit. -/
namespace Go.Proofs.YtbamgkgcoedliaaDoor.Plain
open Go.RowKit Go.Proofs.YtbamgkgcoedliaaDoorW.PrintWords Go.Proofs.YtbamgkgcoedliaaDoorW.PrintLast
set_option linter.unusedVariables false
open Q

abbrev Pr := S39
abbrev rdP (l : List Pr) (i : Int) : Pr := rd_T39 l i

theorem rdP_at {l : List Pr} {i : Nat} (h : i < l.length) : rd_T39 l (i : Int) = l[i] := by
 simp [rd_T39, List.getD, h]

def pairOk (n : Int) (x : Pr) : Bool := decide (0 ≤ x.f0) && (decide (x.f0 < x.f1) && decide (x.f1 < n))
def lessB (x y : Pr) : Bool := decide (x.f0 < y.f0) || (decide (x.f0 = y.f0) && decide (x.f1 < y.f1))
/-- The pair at an index is right, and comes behind the one before. -/
def okAt (n : Int) (l : List Pr) (i : Nat) : Bool := pairOk n (rdP l i) && (decide (i = 0) || lessB (rdP l ((i : Int) - 1)) (rdP l i))
def party (n : Int) (l : List Pr) : Bool := (decide (0 ≤ n) && decide (n ≤ 12)) && (List.range l.length).all (okAt n l)

theorem paLess_eq (x y : Pr) : spec_paLess.f x.f0 x.f1 y.f0 y.f1 = some (lessB x y) := by
 unfold spec_paLess.f lessB
 by_cases h : x.f0 < y.f0
 ·rw [if_pos h, decide_eq_true h]; rfl
 ·rw [if_neg h, decide_eq_false h]
  by_cases h2 : x.f0 = y.f0
  ·rw [if_pos h2, decide_eq_true h2]; simp
  ·rw [if_neg h2, decide_eq_false h2]; simp

/-- Compared as the library compares whole numbers. -/
def cmpI (a b : Int) : Int := if a < b then -1 else if a > b then 1 else 0
theorem compare_eq (a b : Int) : cmp_Compare_int.f a b = some (cmpI a b) := by
 unfold cmp_Compare_int.f cmp_isNaN_int.f cmpI
 simp
 by_cases h : a < b
 ·simp [h]
 ·by_cases h2 : b < a <;> simp [h, h2]

theorem or_two (a b : Int) : Ev (fun k => cmp_Or_int.f k [a, b]) (if a = 0 then b else a) := by
 refine Ev.of (fun k => cmp_Or_int.mono [a, b] k) (k := 3) ?_
 by_cases h : a = 0
 ·by_cases h2 : b = 0
  ·simp [cmp_Or_int.f, cmp_Or_int.l0, rd, h, h2, wrap64]
  ·simp [cmp_Or_int.f, cmp_Or_int.l0, rd, h, h2, wrap64]
 ·simp [cmp_Or_int.f, cmp_Or_int.l0, rd, h]

theorem comparePairs_ev (x y : Pr) : Ev (fun k => impl_comparePairs.f k x.f0 x.f1 y.f0 y.f1) (if cmpI x.f0 y.f0 = 0 then cmpI x.f1 y.f1 else cmpI x.f0 y.f0) := by
 unfold impl_comparePairs.f
 refine ev_bind0 (compare_eq _ _) ?_
 refine ev_bind0 (compare_eq _ _) ?_
 exact Ev.bind (f := fun _ t => some t) (or_two _ _) (Ev.now _)

theorem compare_less (x y : Pr) : ((if cmpI x.f0 y.f0 = 0 then cmpI x.f1 y.f1 else cmpI x.f0 y.f0) ≥ 0) ↔ lessB x y = false := by
 unfold cmpI lessB
 by_cases h1 : x.f0 < y.f0
 ·simp [h1]
 ·by_cases h2 : y.f0 < x.f0
  ·have : ¬ x.f0 = y.f0 := by omega
   simp [h1, h2, this]
  ·have e : x.f0 = y.f0 := by omega
   by_cases h3 : x.f1 < y.f1
   ·simp [e, h3]
   ·by_cases h4 : y.f1 < x.f1 <;> simp [e, h3, h4]

theorem areCrowd_eq (n : Int) : impl_areCrowd.f n = some (decide (0 ≤ n) && decide (n ≤ 12)) := by
 unfold impl_areCrowd.f
 rw [within_eq]; rfl

theorem isParty_ev (n : Int) (l : List Pr) (h : l.length ≤ 9223372036854775807) : Ev (fun k => impl_IsParty.f k n l) (party n l) := by
 have q := ev_up (n := l.length) (loop := fun k i => impl_IsParty.l0 k l (l.length : Int) (i : Int) n l) (r := fun i => (decide (0 ≤ n) && decide (n ≤ 12)) && ((List.range l.length).drop i).all (okAt n l))
  (Ev.step (f := fun _ => some (decide (0 ≤ n) && decide (n ≤ 12))) (fun k => by
    simp only [impl_IsParty.l0]
    rw [if_neg (by omega), areCrowd_eq]; rfl) (by rw [all_end _ (Nat.le_refl _), Bool.and_true]; exact Ev.now _))
  (fun i hi ih => by
   rw [all_step (okAt n l) hi]
   have e0 : okAt n l i = (pairOk n l[i] && (decide (i = 0) || lessB (rdP l ((i : Int) - 1)) l[i])) := by
    unfold okAt rdP; rw [rdP_at hi]
   by_cases a1 : l[i].f0 < 0
   ·have e : okAt n l i = false := by rw [e0]; simp [pairOk]; omega
    rw [e]
    refine Ev.step (f := fun _ => some false) (fun k => ?_) (by simpa using Ev.now false)
    simp only [impl_IsParty.l0]
    rw [if_pos (by omega), if_pos (by omega), if_pos (by omega), rdP_at hi, if_pos a1]
   by_cases a2 : l[i].f0 ≥ l[i].f1
   ·have e : okAt n l i = false := by rw [e0]; simp [pairOk]; omega
    rw [e]
    refine Ev.step (f := fun _ => some false) (fun k => ?_) (by simpa using Ev.now false)
    simp only [impl_IsParty.l0]
    rw [if_pos (by omega), if_pos (by omega), if_pos (by omega), rdP_at hi, if_neg a1, if_pos a2]
   by_cases a3 : l[i].f1 ≥ n
   ·have e : okAt n l i = false := by rw [e0]; simp [pairOk]; omega
    rw [e]
    refine Ev.step (f := fun _ => some false) (fun k => ?_) (by simpa using Ev.now false)
    simp only [impl_IsParty.l0]
    rw [if_pos (by omega), if_pos (by omega), if_pos (by omega), rdP_at hi, if_neg a1, if_neg a2, if_pos a3]
   have ep : pairOk n l[i] = true := by simp [pairOk]; omega
   by_cases a4 : i = 0
   ·have e : okAt n l i = true := by rw [e0, ep, decide_eq_true a4]; simp
    rw [e]
    refine Ev.step (f := fun k => impl_IsParty.l0 k l (l.length : Int) ((i + 1 : Nat) : Int) n l) (fun k => ?_) (by simpa using ih)
    simp only [impl_IsParty.l0]
    rw [if_pos (by omega), if_pos (by omega), if_pos (by omega), rdP_at hi, if_neg a1, if_neg a2, if_neg a3, if_neg (by omega), succ_cast hi h]
   ·have ew : wrap64 ((i : Int) - 1) = ((i - 1 : Nat) : Int) := by rw [wrap_id (by omega) (by omega)]; omega
    have ew2 : ((i : Int) - 1) = ((i - 1 : Nat) : Int) := by omega
    have e : okAt n l i = lessB l[i-1] l[i] := by
     rw [e0, ep, decide_eq_false a4, ew2]
     unfold rdP
     rw [rdP_at (by omega)]; simp
    rw [e]
    refine Ev.step (f := fun k => (impl_comparePairs.f k l[i-1].f0 l[i-1].f1 l[i].f0 l[i].f1).bind fun t => if t ≥ 0 then some false else impl_IsParty.l0 k l (l.length : Int) ((i + 1 : Nat) : Int) n l) (fun k => ?_) ?_
    ·simp only [impl_IsParty.l0]
     rw [if_pos (by omega), if_pos (by omega), if_pos (by omega), rdP_at hi, if_neg a1, if_neg a2, if_neg a3, if_pos (by omega), if_pos (by omega), if_pos (by omega), ew, rdP_at (by omega : i - 1 < l.length), succ_cast hi h]
    ·refine Ev.bind (comparePairs_ev _ _) ?_
     refine ev_if (fun b => ?_) (fun b => ?_)
     ·rw [(compare_less _ _).mp b]; simpa using Ev.now false
     ·have : lessB l[i-1] l[i] = true := by
       cases hb : lessB l[i-1] l[i] with
       | true => rfl
       | false => exact absurd ((compare_less _ _).mpr hb) b
      rw [this]; simpa using ih) 0 (Nat.zero_le _)
 simpa [impl_IsParty.f, party] using q

/-! What a party is, in words of numbers. -/
theorem party_of {n : Int} {l : List Pr} (h : party n l = true) : 0 ≤ n ∧ n ≤ 12 ∧ (∀ i, (hi : i < l.length) → 0 ≤ l[i].f0 ∧ l[i].f0 < l[i].f1 ∧ l[i].f1 < n) ∧ (∀ i, (hi : i + 1 < l.length) → lessB l[i] l[i+1] = true) := by
 unfold party at h
 simp only [Bool.and_eq_true, decide_eq_true_eq, List.all_eq_true, List.mem_range] at h
 obtain ⟨⟨h1, h2⟩, h3⟩ := h
 refine ⟨h1, h2, fun i hi => ?_, fun i hi => ?_⟩
 ·have q := h3 i hi
  unfold okAt rdP at q
  rw [rdP_at hi] at q
  simp only [Bool.and_eq_true, pairOk, decide_eq_true_eq] at q
  exact q.1
 ·have q := h3 (i + 1) hi
  unfold okAt rdP at q
  rw [show (((i + 1 : Nat) : Int) - 1) = ((i : Nat) : Int) by omega, rdP_at hi, rdP_at (by omega : i < l.length)] at q
  simpa using (Bool.and_eq_true _ _ ▸ q).2
end Go.Proofs.YtbamgkgcoedliaaDoor.Plain

/- A party as a relation between people; sets of people as numbers; how many hold. Plain lemmas. No condition. -/
namespace Go.Proofs.YtbamgkgcoedliaaDoor.Plain
open Go.RowKit Go.Proofs.YtbamgkgcoedliaaDoorW.PrintWords Go.Proofs.YtbamgkgcoedliaaDoorW.PrintLast
set_option linter.unusedVariables false
open Q

/-- Are two people friends. -/
def adj (l : List Pr) (a b : Nat) : Bool := l.any fun x => (decide (x.f0 = (a : Int)) && decide (x.f1 = (b : Int))) || (decide (x.f0 = (b : Int)) && decide (x.f1 = (a : Int)))

theorem adj_nil (a b : Nat) : adj [] a b = false := rfl
theorem adj_snoc (l : List Pr) (x : Pr) (a b : Nat) : adj (l ++ [x]) a b = (adj l a b || ((decide (x.f0 = (a : Int)) && decide (x.f1 = (b : Int))) || (decide (x.f0 = (b : Int)) && decide (x.f1 = (a : Int))))) := by
 unfold adj
 rw [List.any_append]
 simp
theorem adj_true {l : List Pr} {a b : Nat} : adj l a b = true ↔ ∃ x ∈ l, (x.f0 = (a : Int) ∧ x.f1 = (b : Int)) ∨ (x.f0 = (b : Int) ∧ x.f1 = (a : Int)) := by
 unfold adj
 rw [List.any_eq_true]
 constructor
 ·rintro ⟨x, hx, h⟩
  exact ⟨x, hx, by simpa using h⟩
 ·rintro ⟨x, hx, h⟩
  exact ⟨x, hx, by simpa using h⟩

/-- All pairs are right for n people. -/
def Right (n : Nat) (l : List Pr) : Prop := ∀ x ∈ l, 0 ≤ x.f0 ∧ x.f0 < x.f1 ∧ x.f1 < (n : Int)
theorem Right.take {n : Nat} {l : List Pr} (h : Right n l) (i : Nat) : Right n (l.take i) := fun x hx => h x (List.mem_of_mem_take hx)

theorem lessB_trans {x y z : Pr} (h1 : lessB x y = true) (h2 : lessB y z = true) : lessB x z = true := by
 unfold lessB at *
 simp only [Bool.or_eq_true, Bool.and_eq_true, decide_eq_true_eq] at *
 omega
theorem sorted_lt {l : List Pr} (h : ∀ i, (hi : i + 1 < l.length) → lessB l[i] l[i+1] = true) : ∀ d i, (hi : i + 1 + d < l.length) → lessB l[i] l[i + 1 + d] = true := by
 intro d
 induction d with
 | zero => intro i hi; exact h i hi
 | succ d ih =>
  intro i hi
  have q := ih i (by omega)
  have q2 := h (i + 1 + d) (by omega)
  exact lessB_trans q q2

/-- What a right party tells: people from 0 to 12, right pairs, in order. -/
theorem party_right {n : Int} {l : List Pr} (h : party n l = true) : ∃ m : Nat, n = (m : Int) ∧ m ≤ 12 ∧ Right m l ∧ (∀ i j, (hj : j < l.length) → (hij : i < j) → lessB l[i] l[j] = true) := by
 obtain ⟨h1, h2, h3, h4⟩ := party_of h
 refine ⟨n.toNat, by omega, by omega, fun x hx => ?_, fun i j hj hij => ?_⟩
 ·obtain ⟨i, hi, rfl⟩ := List.getElem_of_mem hx
  have := h3 i hi
  omega
 ·have := sorted_lt h4 (j - i - 1) i (by omega)
  have e : i + 1 + (j - i - 1) = j := by omega
  simpa only [e] using this

/-! Sets of people as numbers. -/
def maskOf (f : Nat → Bool) : Nat → Nat
 | 0 => 0
 | n + 1 => maskOf f n + (if f n = true then 2 ^ n else 0)

theorem maskOf_lt (f : Nat → Bool) : ∀ n, maskOf f n < 2 ^ n
 | 0 => by simp [maskOf]
 | n + 1 => by
  have := maskOf_lt f n
  unfold maskOf
  rw [Nat.pow_succ]
  split <;> omega

theorem maskOf_bit (f : Nat → Bool) : ∀ n b, (maskOf f n).testBit b = (decide (b < n) && f b)
 | 0, b => by simp [maskOf]
 | n + 1, b => by
  have ih := maskOf_bit f n b
  have hlt := maskOf_lt f n
  unfold maskOf
  by_cases h : f n = true
  ·rw [if_pos h, Nat.add_comm]
   rcases Nat.lt_trichotomy b n with hb | rfl | hb
   ·rw [Nat.testBit_two_pow_add_gt hb, ih]
    simp [hb, Nat.lt_succ_of_lt hb]
   ·rw [Nat.testBit_two_pow_add_eq, Nat.testBit_lt_two_pow hlt]
    simp [h]
   ·have h1 : 2 ^ (n + 1) ≤ 2 ^ b := Nat.pow_le_pow_right (by omega) (by omega)
    rw [Nat.pow_succ] at h1
    rw [Nat.testBit_lt_two_pow (by omega)]
    simp; omega
  ·rw [if_neg h, Nat.add_zero, ih]
   by_cases e : b = n
   ·subst e
    simp [Bool.eq_false_iff.mpr h]
   ·have : decide (b < n + 1) = decide (b < n) := by
     apply decide_eq_decide.mpr; omega
    rw [this]

theorem maskOf_congr {f g : Nat → Bool} : ∀ {n}, (∀ b, b < n → f b = g b) → maskOf f n = maskOf g n
 | 0, _ => rfl
 | n + 1, h => by
  unfold maskOf
  rw [maskOf_congr (n := n) (fun b hb => h b (by omega)), h n (by omega)]

theorem mask_or (f g : Nat → Bool) (n : Nat) : maskOf f n ||| maskOf g n = maskOf (fun b => f b || g b) n := by
 apply Nat.eq_of_testBit_eq
 intro b
 rw [Nat.testBit_or, maskOf_bit, maskOf_bit, maskOf_bit]
 cases decide (b < n) <;> simp
theorem mask_one {n b : Nat} (h : b < n) : (2 ^ b : Nat) = maskOf (fun c => decide (c = b)) n := by
 apply Nat.eq_of_testBit_eq
 intro c
 rw [Nat.testBit_two_pow, maskOf_bit]
 by_cases e : b = c
 ·subst e; simp [h]
 ·have : ¬ (c = b) := fun q => e q.symm
  simp [e, this]

/-! How many hold. -/
def cnt (f : Nat → Bool) (n : Nat) : Nat := (List.range n).countP f
theorem cnt_succ (f : Nat → Bool) (n : Nat) : cnt f (n + 1) = cnt f n + (if f n = true then 1 else 0) := by
 unfold cnt
 rw [List.range_succ, List.countP_append]
 simp [List.countP_cons]
theorem cnt_le (f : Nat → Bool) (n : Nat) : cnt f n ≤ n := by
 unfold cnt
 have := List.countP_le_length (p := f) (l := List.range n)
 simpa using this
theorem cnt_congr {f g : Nat → Bool} {n : Nat} (h : ∀ b, b < n → f b = g b) : cnt f n = cnt g n := by
 unfold cnt
 apply List.countP_congr
 intro x hx
 rw [h x (by simpa using hx)]
theorem cnt_one {f : Nat → Bool} {g : Nat → Bool} {a : Nat} : ∀ {n}, a < n → f a = false → (∀ b, b < n → g b = (f b || decide (b = a))) → cnt g n = cnt f n + 1
 | 0, h, _, _ => by omega
 | n + 1, h, hf, hg => by
  rw [cnt_succ, cnt_succ]
  by_cases e : a = n
  ·subst e
   have h1 : cnt g a = cnt f a := cnt_congr (fun b hb => by rw [hg b (by omega)]; simp [show ¬ b = a by omega])
   have h2 := hg a (by omega)
   rw [h1, h2, hf]
   simp
  ·have h1 := cnt_one (f := f) (g := g) (n := n) (by omega) hf (fun b hb => hg b (by omega))
   have h2 := hg n (by omega)
   rw [h1, h2]
   have : decide (n = a) = false := by simp; omega
   rw [this, Bool.or_false]
   omega
end Go.Proofs.YtbamgkgcoedliaaDoor.Plain

/- The program's table of a party: for each person its friends, as the bits of a number. No condition but lengths that fit. -/
namespace Go.Proofs.YtbamgkgcoedliaaDoor.Plain
open Go.RowKit Go.Proofs.YtbamgkgcoedliaaDoorW.PrintWords Go.Proofs.YtbamgkgcoedliaaDoorW.PrintLast
set_option linter.unusedVariables false
open Q

theorem wraps_u16 (n : Int) (h₀ : 0 ≤ n) (h₁ : n < 2 ^ 16) : IntKind.u16.wrap n = n := by
 have : IntKind.u16.wrap n = n % 65536 := by simp [IntKind.wrap, IntKind.bits, IntKind.signed]
 rw [this]; omega
theorem or16 {a b : Nat} (ha : a < 2 ^ 16) (hb : b < 2 ^ 16) : Go.bits .or .u16 (a : Int) (b : Int) = ((a ||| b : Nat) : Int) := (bits_nat .u16 16 (by decide) wraps_u16 a b ha hb).2
theorem and16 {a b : Nat} (ha : a < 2 ^ 16) (hb : b < 2 ^ 16) : Go.bits .and .u16 (a : Int) (b : Int) = ((a &&& b : Nat) : Int) := (bits_nat .u16 16 (by decide) wraps_u16 a b ha hb).1
theorem shl16 {b : Nat} (hb : b < 16) : shl .u16 1 (b : Int) = ((2 ^ b : Nat) : Int) := by
 unfold shl
 have h1 : min ((b : Int)).toNat IntKind.u16.bits = b := by
  rw [Int.toNat_natCast]
  exact Nat.min_eq_left (by show b ≤ 16; omega)
 rw [h1, Int.one_mul, wraps_u16]
 ·simp
 ·exact Int.pow_nonneg (by decide)
 ·have : (2 : Nat) ^ b < 2 ^ 16 := Nat.pow_lt_pow_right (by omega) hb
  exact_mod_cast this

/-- The table of a relation of n people. -/
def tabF (n : Nat) (f : Nat → Nat → Bool) : List Int := (List.range n).map fun a => ((maskOf (f a) n : Nat) : Int)
theorem tabF_length (n : Nat) (f : Nat → Nat → Bool) : (tabF n f).length = n := by simp [tabF]
theorem tabF_get {n : Nat} {f : Nat → Nat → Bool} {a : Nat} (h : a < n) : rd (tabF n f) (a : Int) = ((maskOf (f a) n : Nat) : Int) := by
 rw [rd_at (by rw [tabF_length]; exact h)]
 simp [tabF]
theorem tabF_congr {n : Nat} {f g : Nat → Nat → Bool} (h : ∀ a b, a < n → b < n → f a b = g a b) : tabF n f = tabF n g := by
 unfold tabF
 apply List.map_congr_left
 intro a ha
 rw [maskOf_congr (fun b hb => h a b (by simpa using ha) hb)]
theorem mask16 {f : Nat → Bool} {n : Nat} (h : n ≤ 16) : maskOf f n < 2 ^ 16 := Nat.lt_of_lt_of_le (maskOf_lt f n) (Nat.pow_le_pow_right (by omega) h)

/-- The relation with two people made friends. -/
def withP (f : Nat → Nat → Bool) (a b : Nat) : Nat → Nat → Bool := fun c d => f c d || ((decide (c = a) && decide (d = b)) || (decide (c = b) && decide (d = a)))

/-- One pair put into the table, as both the loop and 'put' do it. -/
theorem tab_put {n : Nat} (hn : n ≤ 16) (f : Nat → Nat → Bool) {a b : Nat} (ha : a < n) (hb : b < n) (hab : a ≠ b) :
  ((tabF n f).set a (Go.bits .or .u16 (rd (tabF n f) (a : Int)) (shl .u16 1 (b : Int)))).set b
   (Go.bits .or .u16 (rd ((tabF n f).set a (Go.bits .or .u16 (rd (tabF n f) (a : Int)) (shl .u16 1 (b : Int)))) (b : Int)) (shl .u16 1 (a : Int))) = tabF n (withP f a b) := by
 have e1 : Go.bits .or .u16 (rd (tabF n f) (a : Int)) (shl .u16 1 (b : Int)) = ((maskOf (withP f a b a) n : Nat) : Int) := by
  rw [tabF_get ha, shl16 (by omega), or16 (mask16 hn) (Nat.pow_lt_pow_right (by omega) (by omega)), mask_one hb, mask_or]
  congr 1
  apply maskOf_congr
  intro c _
  unfold withP
  simp [hab]
 have e2 : rd ((tabF n f).set a (Go.bits .or .u16 (rd (tabF n f) (a : Int)) (shl .u16 1 (b : Int)))) (b : Int) = ((maskOf (f b) n : Nat) : Int) := by
  rw [rd_at (by rw [List.length_set, tabF_length]; exact hb), List.getElem_set_ne hab]
  simp [tabF]
 have e3 : Go.bits .or .u16 ((maskOf (f b) n : Nat) : Int) (shl .u16 1 (a : Int)) = ((maskOf (withP f a b b) n : Nat) : Int) := by
  rw [shl16 (by omega), or16 (mask16 hn) (Nat.pow_lt_pow_right (by omega) (by omega)), mask_one ha, mask_or]
  congr 1
  apply maskOf_congr
  intro c _
  unfold withP
  simp [show ¬ (b = a) from fun q => hab q.symm]
 rw [e2, e3, e1]
 apply List.ext_getElem
 ·simp [tabF_length]
 ·intro i h1 h2
  rw [tabF_length] at h2
  rw [List.getElem_set, List.getElem_set]
  by_cases i1 : b = i
  ·subst i1
   rw [if_pos rfl]
   simp [tabF]
  ·rw [if_neg i1]
   by_cases i2 : a = i
   ·subst i2
    rw [if_pos rfl]
    simp [tabF]
   ·rw [if_neg i2]
    simp only [tabF, List.getElem_map, List.getElem_range]
    congr 1
    apply maskOf_congr
    intro c _
    unfold withP
    simp [show ¬ (i = a) from fun q => i2 q.symm, show ¬ (i = b) from fun q => i1 q.symm]

theorem table_ev {n : Nat} {l : List Pr} (hn : n ≤ 12) (hr : Right n l) (h : l.length ≤ 9223372036854775807) : Ev (fun k => impl_Party_table.f k (n : Int) l) (tabF n (adj l)) := by
 refine Ev.congr (f := fun k => impl_Party_table.l0 k (List.replicate n 0) l (l.length : Int) 0) (fun k => ?_) ?_
 ·unfold impl_Party_table.f
  rw [if_pos (by omega), if_pos (by omega), Int.toNat_natCast]
 ·have q := ev_up (n := l.length) (loop := fun k i => impl_Party_table.l0 k (tabF n (adj (l.take i))) l (l.length : Int) (i : Int)) (r := fun _ => tabF n (adj l))
   (Ev.step (f := fun _ => some (tabF n (adj l))) (fun k => by simp [impl_Party_table.l0]) (Ev.now _))
   (fun i hi ih => by
    have r := hr _ (List.getElem_mem hi)
    have ea : ((l[i].f0.toNat : Nat) : Int) = l[i].f0 := by omega
    have eb : ((l[i].f1.toNat : Nat) : Int) = l[i].f1 := by omega
    have hput := tab_put (n := n) (by omega) (adj (l.take i)) (a := l[i].f0.toNat) (b := l[i].f1.toNat) (by omega) (by omega) (by omega)
    rw [ea, eb] at hput
    have hnext : tabF n (withP (adj (l.take i)) l[i].f0.toNat l[i].f1.toNat) = tabF n (adj (l.take (i + 1))) := by
     apply tabF_congr
     intro c d _ _
     rw [List.take_succ_eq_append_getElem hi, adj_snoc]
     unfold withP
     congr 1
     have k1 : decide (c = l[i].f0.toNat) = decide (l[i].f0 = (c : Int)) := by apply decide_eq_decide.mpr; omega
     have k2 : decide (d = l[i].f1.toNat) = decide (l[i].f1 = (d : Int)) := by apply decide_eq_decide.mpr; omega
     have k3 : decide (c = l[i].f1.toNat) = decide (l[i].f1 = (c : Int)) := by apply decide_eq_decide.mpr; omega
     have k4 : decide (d = l[i].f0.toNat) = decide (l[i].f0 = (d : Int)) := by apply decide_eq_decide.mpr; omega
     rw [k1, k2, k3, k4, Bool.and_comm (decide (l[i].f1 = (c : Int)))]
    rw [hnext] at hput
    refine Ev.step (f := fun k => impl_Party_table.l0 k (tabF n (adj (l.take (i + 1)))) l (l.length : Int) ((i + 1 : Nat) : Int)) (fun k => ?_) ih
    simp only [impl_Party_table.l0]
    rw [if_pos (by omega), if_pos (by omega), if_pos (by omega), rdP_at hi, if_pos (by omega), if_pos (by rw [tabF_length]; omega), if_pos (by omega), Option.bind_some, if_pos (by rw [tabF_length]; omega), hput, succ_cast hi h]) 0 (Nat.zero_le _)
  have e : tabF n (adj (l.take 0)) = List.replicate n 0 := by
   have hz : ∀ m, maskOf (fun _ => false) m = 0 := by
    intro m
    induction m with
    | zero => rfl
    | succ m ih => unfold maskOf; rw [ih]; simp
   have : tabF n (fun _ _ => false) = List.replicate n 0 := by
    unfold tabF
    rw [List.eq_replicate_iff]
    refine ⟨by simp, fun b hb => ?_⟩
    obtain ⟨a, _, rfl⟩ := List.mem_map.1 hb
    rw [hz]; rfl
   rw [← this]
   apply tabF_congr
   intro a b _ _
   rw [List.take_zero, adj_nil]
  rw [e] at q
  exact q
end Go.Proofs.YtbamgkgcoedliaaDoor.Plain

/- The reference's table of a party: for each person, of each person, whether they are friends. No condition but lengths that fit. -/
namespace Go.Proofs.YtbamgkgcoedliaaDoor.Plain
open Go.RowKit Go.Proofs.YtbamgkgcoedliaaDoorW.PrintWords Go.Proofs.YtbamgkgcoedliaaDoorW.PrintLast
set_option linter.unusedVariables false
open Q

theorem rdB_at {l : List (List Bool)} {i : Nat} (h : i < l.length) : rd_L4 l (i : Int) = l[i] := by
 simp [rd_L4, List.getD, h]
theorem rdOfB_at {l : List Bool} {i : Nat} (h : i < l.length) : rdOf false l (i : Int) = l[i] := by
 simp [rdOf, List.getD, h]

/-- The table of a relation of n people, as bools. -/
def rowB (n : Nat) (f : Nat → Bool) : List Bool := (List.range n).map f
def tabB (n : Nat) (f : Nat → Nat → Bool) : List (List Bool) := (List.range n).map fun a => rowB n (f a)
theorem rowB_length (n : Nat) (f : Nat → Bool) : (rowB n f).length = n := by simp [rowB]
theorem rowB_get {n : Nat} {f : Nat → Bool} {a : Nat} (h : a < (rowB n f).length) : (rowB n f)[a] = f a := by simp [rowB]
theorem tabB_length (n : Nat) (f : Nat → Nat → Bool) : (tabB n f).length = n := by simp [tabB]
theorem tabB_getElem {n : Nat} {f : Nat → Nat → Bool} {a : Nat} (h : a < (tabB n f).length) : (tabB n f)[a] = rowB n (f a) := by simp [tabB]
theorem tabB_get {n : Nat} {f : Nat → Nat → Bool} {a : Nat} (h : a < n) : rd_L4 (tabB n f) (a : Int) = rowB n (f a) := by
 rw [rdB_at (by rw [tabB_length]; exact h), tabB_getElem]
theorem rowB_congr {n : Nat} {f g : Nat → Bool} (h : ∀ b, b < n → f b = g b) : rowB n f = rowB n g := by
 unfold rowB
 apply List.map_congr_left
 intro b hb
 exact h b (by simpa using hb)
theorem tabB_congr {n : Nat} {f g : Nat → Nat → Bool} (h : ∀ a b, a < n → b < n → f a b = g a b) : tabB n f = tabB n g := by
 unfold tabB
 apply List.map_congr_left
 intro a ha
 exact rowB_congr (fun b hb => h a b (by simpa using ha) hb)
theorem rowB_set {n : Nat} {f : Nat → Bool} {b : Nat} (v : Bool) : (rowB n f).set b v = rowB n (fun c => if c = b then v else f c) := by
 apply List.ext_getElem
 ·simp [rowB_length]
 ·intro i h1 h2
  rw [List.getElem_set, rowB_get]
  by_cases e : b = i
  ·subst e; rw [if_pos rfl, rowB_get, if_pos rfl]
  ·rw [if_neg e, rowB_get, if_neg (fun q => e q.symm)]

/-- Two cells set, the one of both people's. -/
def setP (f : Nat → Nat → Bool) (a b : Nat) (v : Bool) : Nat → Nat → Bool := fun c d => if (c = a ∧ d = b) ∨ (c = b ∧ d = a) then v else f c d

theorem tabB_put {n : Nat} (f : Nat → Nat → Bool) {a b : Nat} (ha : a < n) (hb : b < n) (hab : a ≠ b) (v : Bool) :
  ((tabB n f).set a ((rd_L4 (tabB n f) (a : Int)).set b v)).set b ((rd_L4 ((tabB n f).set a ((rd_L4 (tabB n f) (a : Int)).set b v)) (b : Int)).set a v) = tabB n (setP f a b v) := by
 have e2 : rd_L4 ((tabB n f).set a ((rd_L4 (tabB n f) (a : Int)).set b v)) (b : Int) = rowB n (f b) := by
  rw [rdB_at (by rw [List.length_set, tabB_length]; exact hb), List.getElem_set_ne hab, tabB_getElem]
 rw [e2, tabB_get ha, rowB_set, rowB_set]
 apply List.ext_getElem
 ·simp [tabB_length]
 ·intro i h1 h2
  rw [tabB_length] at h2
  rw [List.getElem_set, List.getElem_set]
  by_cases i1 : b = i
  ·subst i1
   rw [if_pos rfl, tabB_getElem]
   apply rowB_congr
   intro c _
   unfold setP
   simp [show ¬ (b = a) from fun q => hab q.symm]
  ·rw [if_neg i1]
   by_cases i2 : a = i
   ·subst i2
    rw [if_pos rfl, tabB_getElem]
    apply rowB_congr
    intro c _
    unfold setP
    simp [hab]
   ·rw [if_neg i2, tabB_getElem, tabB_getElem]
    apply rowB_congr
    intro c _
    unfold setP
    simp [show ¬ (i = a) from fun q => i2 q.symm, show ¬ (i = b) from fun q => i1 q.symm]

theorem setP_true (f : Nat → Nat → Bool) (a b c d : Nat) : setP f a b true c d = withP f a b c d := by
 unfold setP withP
 by_cases h : (c = a ∧ d = b) ∨ (c = b ∧ d = a)
 ·rw [if_pos h]
  rcases h with ⟨rfl, rfl⟩ | ⟨rfl, rfl⟩ <;> simp
 ·rw [if_neg h]
  have : ((decide (c = a) && decide (d = b)) || (decide (c = b) && decide (d = a))) = false := by
   rw [Bool.eq_false_iff]
   intro q
   exact h (by simpa using q)
  rw [this, Bool.or_false]

theorem adj_next {n : Nat} {l : List Pr} (hr : Right n l) {i : Nat} (hi : i < l.length) (c d : Nat) : withP (adj (l.take i)) l[i].f0.toNat l[i].f1.toNat c d = adj (l.take (i + 1)) c d := by
 have r := hr _ (List.getElem_mem hi)
 rw [List.take_succ_eq_append_getElem hi, adj_snoc]
 unfold withP
 congr 1
 have k1 : decide (c = l[i].f0.toNat) = decide (l[i].f0 = (c : Int)) := by apply decide_eq_decide.mpr; omega
 have k2 : decide (d = l[i].f1.toNat) = decide (l[i].f1 = (d : Int)) := by apply decide_eq_decide.mpr; omega
 have k3 : decide (c = l[i].f1.toNat) = decide (l[i].f1 = (c : Int)) := by apply decide_eq_decide.mpr; omega
 have k4 : decide (d = l[i].f0.toNat) = decide (l[i].f0 = (d : Int)) := by apply decide_eq_decide.mpr; omega
 rw [k1, k2, k3, k4, Bool.and_comm (decide (l[i].f1 = (c : Int)))]

theorem paTable_ev {n : Nat} {l : List Pr} (hn : n ≤ 12) (hr : Right n l) (h : l.length ≤ 9223372036854775807) : Ev (fun k => spec_paTable.f k (n : Int) l) (tabB n (adj l)) := by
 have q1 := ev_up (n := l.length) (loop := fun k i => spec_paTable.l1 k (tabB n (adj (l.take i))) l (l.length : Int) (i : Int)) (r := fun _ => tabB n (adj l))
  (Ev.step (f := fun _ => some (tabB n (adj l))) (fun k => by simp [spec_paTable.l1]) (Ev.now _))
  (fun i hi ih => by
   have r := hr _ (List.getElem_mem hi)
   have ea : ((l[i].f0.toNat : Nat) : Int) = l[i].f0 := by omega
   have eb : ((l[i].f1.toNat : Nat) : Int) = l[i].f1 := by omega
   have hput := tabB_put (n := n) (adj (l.take i)) (a := l[i].f0.toNat) (b := l[i].f1.toNat) (by omega) (by omega) (by omega) true
   have hnext : tabB n (setP (adj (l.take i)) l[i].f0.toNat l[i].f1.toNat true) = tabB n (adj (l.take (i + 1))) :=
    tabB_congr (fun c d _ _ => by rw [setP_true, adj_next hr hi])
   rw [hnext] at hput
   have la : (rd_L4 (tabB n (adj (l.take i))) l[i].f0).length = n := by
    rw [← ea, tabB_get (by omega), rowB_length]
   have lb : (rd_L4 ((tabB n (adj (l.take i))).set l[i].f0.toNat ((rd_L4 (tabB n (adj (l.take i))) l[i].f0).set l[i].f1.toNat true)) l[i].f1).length = n := by
    rw [← eb, rdB_at (by rw [List.length_set, tabB_length]; omega), List.getElem_set_ne (by omega), tabB_getElem, rowB_length]
   rw [ea, eb] at hput
   refine Ev.step (f := fun k => spec_paTable.l1 k (tabB n (adj (l.take (i + 1)))) l (l.length : Int) ((i + 1 : Nat) : Int)) (fun k => ?_) ih
   simp only [spec_paTable.l1]
   rw [if_pos (by omega), if_pos (by omega), if_pos (by omega), rdP_at hi, if_pos (by omega), if_pos (by rw [tabB_length]; omega), if_pos (by omega), if_pos (by rw [la]; omega), Option.bind_some, if_pos (by rw [tabB_length]; omega), if_pos (by rw [lb]; omega), hput, succ_cast hi h]) 0 (Nat.zero_le _)
 have e0 : tabB n (adj (l.take 0)) = List.replicate n (List.replicate n false) := by
  unfold tabB
  rw [List.eq_replicate_iff]
  refine ⟨by simp, fun b hb => ?_⟩
  obtain ⟨a, _, rfl⟩ := List.mem_map.1 hb
  unfold rowB
  rw [List.eq_replicate_iff]
  refine ⟨by simp, fun c hc => ?_⟩
  obtain ⟨d, _, rfl⟩ := List.mem_map.1 hc
  rw [List.take_zero, adj_nil]
 rw [e0] at q1
 have q0 := ev_up (n := n) (loop := fun k i => spec_paTable.l0 k (List.replicate i (List.replicate n false)) (i : Int) (n : Int) l) (r := fun _ => tabB n (adj l))
  (Ev.step (f := fun k => spec_paTable.l1 k (List.replicate n (List.replicate n false)) l (l.length : Int) 0) (fun k => by
   simp only [spec_paTable.l0]
   rw [if_neg (by omega)]) q1)
  (fun i hi ih => by
   refine Ev.step (f := fun k => spec_paTable.l0 k (List.replicate (i + 1) (List.replicate n false)) ((i + 1 : Nat) : Int) (n : Int) l) (fun k => ?_) ih
   simp only [spec_paTable.l0]
   rw [if_pos (by omega), if_pos (by omega), if_pos (by omega), if_pos (by simp; omega), Int.toNat_natCast, succ_cast hi (by omega), ← List.replicate_succ']) 0 (Nat.zero_le _)
 exact q0
end Go.Proofs.YtbamgkgcoedliaaDoor.Plain

/- The party of a table, on both sides. No condition but that there are at most twelve people. -/
namespace Go.Proofs.YtbamgkgcoedliaaDoor.Plain
open Go.RowKit Go.Proofs.YtbamgkgcoedliaaDoorW.PrintWords Go.Proofs.YtbamgkgcoedliaaDoorW.PrintLast
set_option linter.unusedVariables false
open Q

end Go.Proofs.YtbamgkgcoedliaaDoor.Plain

/- The law's own functions over parties, and the reference's test. No condition but lengths that fit. -/
namespace Go.Proofs.YtbamgkgcoedliaaDoor.Plain
open Go.RowKit Go.Proofs.YtbamgkgcoedliaaDoorW.PrintWords Go.Proofs.YtbamgkgcoedliaaDoorW.PrintLast
set_option linter.unusedVariables false
open Q

abbrev Lp := S55
/-- A pair of the law's as a pair of the program's. -/
def toP (x : Lp) : Pr := ⟨x.f0, x.f1⟩

theorem szParty_eq (n : Int) (l : List Lp) (a : Int) (h0 : 0 ≤ a) (h1 : a ≤ 1048576) (h : l.length ≤ 9223372036854775807) : laws_szParty.f n l a = some (if a < (l.length : Int) then -1 else a - l.length) := by
 unfold laws_szParty.f laws_szPairS.f
 rw [wrap_id (by omega) (by omega)]
 by_cases hl : a < (l.length : Int)
 ·rw [if_pos (by omega), Option.bind_some, if_pos (by omega), if_pos hl]
 ·rw [if_neg (by omega), Option.bind_some, if_neg (by omega), if_neg hl]

theorem rdLp_at {l : List Lp} {i : Nat} (h : i < l.length) : rd_T55 l (i : Int) = l[i] := by
 simp [rd_T55, List.getD, h]

theorem copy_map {α β : Type} (z : β) (g : α → β) (l : List α) (i : Nat) (h : i < l.length) :
  ((l.map g).take i ++ List.replicate (l.length - i) z).set ((i : Int)).toNat (g l[i]) = (l.map g).take (i + 1) ++ List.replicate (l.length - (i + 1)) z := by
 have e : l.length - i = (l.length - (i + 1)) + 1 := by omega
 have hl : ((l.map g).take i).length = i := by simp; omega
 have hm : i < (l.map g).length := by simpa using h
 rw [Int.toNat_natCast, e, List.replicate_succ, List.set_append_right _ _ (by omega), hl, Nat.sub_self, List.set_cons_zero, List.take_succ_eq_append_getElem hm, List.append_assoc, List.getElem_map]
 rfl

theorem toPairS_ev (l : List Lp) (h : l.length ≤ 17592186044416) : Ev (fun k => laws_toPairS.f k l) (l.map toP) := by
 refine Ev.congr (f := fun k => laws_toPairS.l0 k l (List.replicate l.length z39) 0) (fun k => ?_) ?_
 ·unfold laws_toPairS.f
  rw [if_pos (by omega), if_pos (by omega), Int.toNat_natCast]
 ·have q := ev_up (n := l.length) (loop := fun k i => laws_toPairS.l0 k l ((l.map toP).take i ++ List.replicate (l.length - i) z39) (i : Int)) (r := fun _ => l.map toP)
   (Ev.step (f := fun _ => some (l.map toP)) (fun k => by
    simp only [laws_toPairS.l0]
    rw [if_neg (by omega), Nat.sub_self, List.replicate_zero, List.append_nil, List.take_of_length_le (by simp)]) (Ev.now _))
   (fun i hi ih => Ev.step (f := fun k => laws_toPairS.l0 k l ((l.map toP).take (i + 1) ++ List.replicate (l.length - (i + 1)) z39) ((i + 1 : Nat) : Int)) (fun k => by
    simp only [laws_toPairS.l0]
    rw [if_pos (by omega), if_pos (by omega), rdLp_at hi]
    show (if (i : Int) < _ then laws_toPairS.l0 k l (List.set _ _ (toP l[i])) _ else none) = _
    rw [if_pos (by simp; omega), copy_map _ toP l i hi, succ_cast hi (by omega)]) ih) 0 (Nat.zero_le _)
  simpa using q

theorem toParty_ev (n : Int) (l : List Lp) (h : l.length ≤ 17592186044416) : Ev (fun k => laws_toParty.f k n l) (n, l.map toP) := by
 unfold laws_toParty.f
 exact Ev.bind (f := fun _ t => some (n, t)) (toPairS_ev l h) (Ev.now _)

theorem eqPair_eq (x : Pr) : laws_eqPair.f x.f0 x.f1 x.f0 x.f1 = some true := by
 unfold laws_eqPair.f
 rw [if_pos rfl, if_pos rfl]

theorem eqPairS_ev (l : List Pr) (h : l.length ≤ 9223372036854775807) : Ev (fun k => laws_eqPairS.f k l l) true := by
 refine Ev.congr (f := fun k => laws_eqPairS.l0 k l l 0) (fun k => ?_) ?_
 ·unfold laws_eqPairS.f
  rw [if_pos rfl]
 ·exact ev_up (n := l.length) (loop := fun k i => laws_eqPairS.l0 k l l (i : Int)) (r := fun _ => true)
   (Ev.step (f := fun _ => some true) (fun k => by simp [laws_eqPairS.l0]) (Ev.now true))
   (fun i hi ih => Ev.step (f := fun k => laws_eqPairS.l0 k l l ((i + 1 : Nat) : Int)) (fun k => by
    simp only [laws_eqPairS.l0]
    rw [if_pos (by omega), if_pos (by omega), if_pos (by omega), rdP_at hi, eqPair_eq, Option.bind_some, if_pos rfl, succ_cast hi h]) ih) 0 (Nat.zero_le _)

theorem eqParty_ev (n : Int) (l : List Pr) (h : l.length ≤ 9223372036854775807) : Ev (fun k => laws_eqParty.f k n l n l) true := by
 refine Ev.congr (f := fun k => (laws_eqPairS.f k l l).bind fun t => if t = true then some true else some false) (fun k => ?_) ?_
 ·unfold laws_eqParty.f
  rw [if_pos rfl]
 ·exact Ev.bind (f := fun _ t => if t = true then some true else some false) (eqPairS_ev l h) (ev_some (fun _ => rfl))
end Go.Proofs.YtbamgkgcoedliaaDoor.Plain

/- The reference's test of a party. No condition but a length that fits. -/
namespace Go.Proofs.YtbamgkgcoedliaaDoor.Plain
open Go.RowKit Go.Proofs.YtbamgkgcoedliaaDoorW.PrintWords Go.Proofs.YtbamgkgcoedliaaDoorW.PrintLast
set_option linter.unusedVariables false
open Q

/-- All pairs of n people. -/
def pairsOf (n : Nat) : List (Nat × Nat) := (List.range n).flatMap fun a => ((List.range n).filter fun b => decide (a < b)).map fun b => (a, b)

theorem pairsOf_length : ∀ n : Fin 13, (((pairsOf n.val).length : Nat) : Int) = (n.val : Int) * ((n.val : Int) - 1) / 2 := by decide +kernel

theorem mem_pairsOf {n a b : Nat} (h : a < b) (hb : b < n) : (a, b) ∈ pairsOf n := by
 unfold pairsOf
 rw [List.mem_flatMap]
 exact ⟨a, List.mem_range.mpr (by omega), List.mem_map.mpr ⟨b, List.mem_filter.mpr ⟨List.mem_range.mpr hb, by simpa using h⟩, rfl⟩⟩

/-- There are no more pairs in a party than pairs of its people. -/
theorem party_len {n : Nat} {l : List Pr} (hn : n ≤ 12) (hr : Right n l) (hs : ∀ i j, (hj : j < l.length) → (hij : i < j) → lessB l[i] l[j] = true) : (l.length : Int) ≤ (n : Int) * ((n : Int) - 1) / 2 := by
 have hnd : (l.map fun x => (x.f0.toNat, x.f1.toNat)).Nodup := by
  rw [List.nodup_iff_pairwise_ne, List.pairwise_iff_getElem]
  intro i j hi hj hij e
  simp only [List.length_map] at hi hj
  simp only [List.getElem_map, Prod.mk.injEq] at e
  have s := hs i j hj hij
  have r1 := hr _ (List.getElem_mem hi)
  have r2 := hr _ (List.getElem_mem hj)
  unfold lessB at s
  simp only [Bool.or_eq_true, Bool.and_eq_true, decide_eq_true_eq] at s
  omega
 have hsub : (l.map fun x => (x.f0.toNat, x.f1.toNat)) ⊆ pairsOf n := by
  intro p hp
  obtain ⟨x, hx, rfl⟩ := List.mem_map.1 hp
  have := hr x hx
  exact mem_pairsOf (by omega) (by omega)
 have h1 := List.Nodup.length_le_of_subset hnd hsub
 rw [List.length_map] at h1
 have h2 := pairsOf_length ⟨n, by omega⟩
 simp only [] at h2
 omega

theorem bound_eq {n : Int} (h0 : 0 ≤ n) (h1 : n ≤ 12) : wrap64 (Int.tdiv (wrap64 (n * (wrap64 (n - 1)))) 2) = n * (n - 1) / 2 := by
 have : n = 0 ∨ n = 1 ∨ n = 2 ∨ n = 3 ∨ n = 4 ∨ n = 5 ∨ n = 6 ∨ n = 7 ∨ n = 8 ∨ n = 9 ∨ n = 10 ∨ n = 11 ∨ n = 12 := by omega
 rcases this with rfl | rfl | rfl | rfl | rfl | rfl | rfl | rfl | rfl | rfl | rfl | rfl | rfl <;> decide +kernel

theorem paPeople_eq (n : Int) : spec_paPeople.f n = some (decide (0 ≤ n) && decide (n ≤ 12)) := by
 unfold spec_paPeople.f
 rw [l1In_eq]; rfl

theorem paGood_l0 (n : Int) (l : List Pr) (h0 : 0 ≤ n) (h1 : n ≤ 12) (h : l.length ≤ 9223372036854775807) : Ev (fun k => spec_paGood.l0 k l (l.length : Int) 0 n l) ((List.range l.length).all (okAt n l)) := by
 have q := ev_up (n := l.length) (loop := fun k i => spec_paGood.l0 k l (l.length : Int) (i : Int) n l) (r := fun i => ((List.range l.length).drop i).all (okAt n l))
  (Ev.step (f := fun _ => some true) (fun k => by simp only [spec_paGood.l0]; rw [if_neg (by omega)]) (by rw [all_end _ (Nat.le_refl _)]; exact Ev.now _))
  (fun i hi ih => by
   rw [all_step (okAt n l) hi]
   have e0 : okAt n l i = (pairOk n l[i] && (decide (i = 0) || lessB (rdP l ((i : Int) - 1)) l[i])) := by
    unfold okAt rdP; rw [rdP_at hi]
   have wn : wrap64 (n - 1) = n - 1 := wrap_id (by omega) (by omega)
   by_cases a1 : 0 ≤ l[i].f0 ∧ l[i].f0 ≤ n - 1
   ·have w1 : wrap64 (l[i].f0 + 1) = l[i].f0 + 1 := wrap_id (by omega) (by omega)
    have b1 : (decide (0 ≤ l[i].f0) && decide (l[i].f0 ≤ n - 1)) = true := by simpa using a1
    by_cases a2 : l[i].f0 + 1 ≤ l[i].f1 ∧ l[i].f1 ≤ n - 1
    ·have b2 : (decide (l[i].f0 + 1 ≤ l[i].f1) && decide (l[i].f1 ≤ n - 1)) = true := by simpa using a2
     have ep : pairOk n l[i] = true := by simp [pairOk]; omega
     by_cases a4 : i = 0
     ·have e : okAt n l i = true := by rw [e0, ep, decide_eq_true a4]; simp
      rw [e]
      refine Ev.step (f := fun k => spec_paGood.l0 k l (l.length : Int) ((i + 1 : Nat) : Int) n l) (fun k => ?_) (by simpa using ih)
      simp only [spec_paGood.l0]
      rw [if_pos (by omega), if_pos (by omega), if_pos (by omega), rdP_at hi, wn, l1In_eq, b1, Option.bind_some, if_pos rfl, w1, l1In_eq, b2, Option.bind_some, if_pos rfl, if_neg (by omega), succ_cast hi h]
     ·have ew : wrap64 ((i : Int) - 1) = ((i - 1 : Nat) : Int) := pred_cast (by omega) (by omega)
      have ew2 : ((i : Int) - 1) = ((i - 1 : Nat) : Int) := by omega
      have e : okAt n l i = lessB l[i-1] l[i] := by
       rw [e0, ep, decide_eq_false a4, ew2]
       unfold rdP
       rw [rdP_at (by omega)]; simp
      rw [e]
      refine Ev.step (f := fun k => if lessB l[i-1] l[i] = true then spec_paGood.l0 k l (l.length : Int) ((i + 1 : Nat) : Int) n l else some false) (fun k => ?_) ?_
      ·simp only [spec_paGood.l0]
       rw [if_pos (by omega), if_pos (by omega), if_pos (by omega), rdP_at hi, wn, l1In_eq, b1, Option.bind_some, if_pos rfl, w1, l1In_eq, b2, Option.bind_some, if_pos rfl, if_pos (by omega), ew, if_pos (by omega), if_pos (by omega), rdP_at (by omega : i - 1 < l.length), paLess_eq, Option.bind_some, succ_cast hi h]
      ·cases hb : lessB l[i-1] l[i] with
       | true => exact ev_if (fun _ => by simpa using ih) (fun h => absurd rfl h)
       | false => exact ev_some (fun _ => by simp)
    ·have b2 : (decide (l[i].f0 + 1 ≤ l[i].f1) && decide (l[i].f1 ≤ n - 1)) = false := by
      rw [Bool.eq_false_iff]; intro q; exact a2 (by simpa using q)
     have e : okAt n l i = false := by rw [e0]; simp [pairOk]; omega
     rw [e]
     refine Ev.step (f := fun _ => some false) (fun k => ?_) (by simpa using Ev.now false)
     simp only [spec_paGood.l0]
     rw [if_pos (by omega), if_pos (by omega), if_pos (by omega), rdP_at hi, wn, l1In_eq, b1, Option.bind_some, if_pos rfl, w1, l1In_eq, b2, Option.bind_some, if_neg (by simp)]
   ·have b1 : (decide (0 ≤ l[i].f0) && decide (l[i].f0 ≤ n - 1)) = false := by
     rw [Bool.eq_false_iff]; intro q; exact a1 (by simpa using q)
    have e : okAt n l i = false := by rw [e0]; simp [pairOk]; omega
    rw [e]
    refine Ev.step (f := fun _ => some false) (fun k => ?_) (by simpa using Ev.now false)
    simp only [spec_paGood.l0]
    rw [if_pos (by omega), if_pos (by omega), if_pos (by omega), rdP_at hi, wn, l1In_eq, b1, Option.bind_some, if_neg (by simp)]) 0 (Nat.zero_le _)
 simpa using q

theorem paGood_ev (n : Int) (l : List Pr) (h : l.length ≤ 9223372036854775807) : Ev (fun k => spec_paGood.f k n l) (party n l) := by
 unfold spec_paGood.f
 refine ev_bind0 (paPeople_eq n) ?_
 cases hb : (decide (0 ≤ n) && decide (n ≤ 12)) with
 | false =>
  have e : party n l = false := by unfold party; rw [hb]; rfl
  rw [e]
  refine ev_if (fun h => by simp at h) (fun _ => ?_)
  exact Ev.step (f := fun _ => some false) (fun k => by simp [spec_paGood.j0]) (Ev.now _)
 | true =>
  have hn : 0 ≤ n ∧ n ≤ 12 := by simpa using hb
  have e : party n l = (List.range l.length).all (okAt n l) := by unfold party; rw [hb]; rfl
  refine ev_if (fun _ => ?_) (fun h => absurd rfl h)
  rw [bound_eq hn.1 hn.2]
  by_cases c : (l.length : Int) > n * (n - 1) / 2
  ·refine Ev.step (f := fun _ => some false) (fun k => ?_) ?_
   ·simp only [spec_paGood.j0]
    rw [if_pos (decide_eq_true c)]
   ·cases hp : party n l with
    | false => exact Ev.now _
    | true =>
     exfalso
     obtain ⟨m, rfl, h12, hr, hs⟩ := party_right hp
     have := party_len h12 hr hs
     omega
  ·rw [e]
   refine Ev.step (f := fun k => spec_paGood.l0 k l (l.length : Int) 0 n l) (fun k => ?_) (paGood_l0 n l hn.1 hn.2 h)
   simp only [spec_paGood.j0]
   rw [if_neg (by simpa using c)]
end Go.Proofs.YtbamgkgcoedliaaDoor.Plain

/- The places at which a test holds, as a list. No condition. -/
namespace Go.Proofs.YtbamgkgcoedliaaDoor.Plain
open Go.RowKit Go.Proofs.YtbamgkgcoedliaaDoorW.PrintWords Go.Proofs.YtbamgkgcoedliaaDoorW.PrintLast
set_option linter.unusedVariables false
open Q

/-- The numbers less than n at which f holds, from i on. -/
def posFrom (f : Nat → Bool) (n i : Nat) : List Int := (((List.range n).drop i).filter f).map fun b : Nat => (b : Int)
def posL (f : Nat → Bool) (n : Nat) : List Int := posFrom f n 0
theorem posFrom_end (f : Nat → Bool) {n i : Nat} (h : n ≤ i) : posFrom f n i = [] := by
 unfold posFrom
 rw [List.drop_eq_nil_of_le (by simpa using h)]; rfl
theorem posFrom_step (f : Nat → Bool) {n i : Nat} (h : i < n) : posFrom f n i = (if f i = true then [(i : Int)] else []) ++ posFrom f n (i + 1) := by
 unfold posFrom
 rw [List.drop_eq_getElem_cons (by simpa using h), List.getElem_range, List.filter_cons]
 by_cases c : f i = true
 ·rw [if_pos c, if_pos c]; rfl
 ·rw [if_neg c, if_neg c]; rfl
theorem posL_length (f : Nat → Bool) (n : Nat) : (posL f n).length = cnt f n := by
 unfold posL posFrom cnt
 rw [List.length_map, List.drop_zero, List.countP_eq_length_filter]
theorem posL_le (f : Nat → Bool) (n : Nat) : (posL f n).length ≤ n := by rw [posL_length]; exact cnt_le _ _
theorem mem_posL {f : Nat → Bool} {n : Nat} {x : Int} : x ∈ posL f n ↔ ∃ b : Nat, b < n ∧ f b = true ∧ x = (b : Int) := by
 unfold posL posFrom
 simp only [List.drop_zero, List.mem_map, List.mem_filter, List.mem_range]
 constructor
 ·rintro ⟨b, ⟨h1, h2⟩, rfl⟩; exact ⟨b, h1, h2, rfl⟩
 ·rintro ⟨b, h1, h2, rfl⟩; exact ⟨b, ⟨h1, h2⟩, rfl⟩
end Go.Proofs.YtbamgkgcoedliaaDoor.Plain

/- The numbers of the bits that are set. No condition. -/
-- over bits_TrailingZeros16.f
namespace Go.Proofs.YtbamgkgcoedliaaDoor.Plain
open Go.RowKit Go.Proofs.YtbamgkgcoedliaaDoorW.PrintWords Go.Proofs.YtbamgkgcoedliaaDoorW.PrintLast
set_option linter.unusedVariables false
open Q

theorem tz_low : ∀ (k m i : Nat), i < k → m.testBit i = true → (∀ j, j < i → m.testBit j = false) → tz k m = i
 | 0, _, _, h, _, _ => by omega
 | k + 1, m, i, h, h1, h2 => by
  unfold tz
  cases i with
  | zero =>
   rw [Nat.testBit_zero, decide_eq_true_eq] at h1
   rw [if_pos h1]
  | succ i =>
   have h0 := h2 0 (by omega)
   rw [Nat.testBit_zero, decide_eq_false_iff_not] at h0
   rw [if_neg h0, tz_low k (m / 2) i (by omega) (by rw [← Nat.testBit_succ]; exact h1) (fun j hj => by rw [← Nat.testBit_succ]; exact h2 (j + 1) (by omega))]

theorem clear_low {m t q : Nat} (h : m = 2 ^ t * (2 * q + 1)) (j : Nat) : (m &&& (m - 1)).testBit j = (m.testBit j && decide (j ≠ t)) := by
 have hp : 0 < 2 ^ t := Nat.two_pow_pos t
 have hm : m - 1 = 2 ^ t * (2 * q) + (2 ^ t - 1) := by rw [h, Nat.mul_add, Nat.mul_one]; omega
 rw [Nat.testBit_and, hm, Nat.testBit_two_pow_mul_add _ (by omega : 2 ^ t - 1 < 2 ^ t), Nat.testBit_two_pow_sub_one, h, Nat.testBit_two_pow_mul]
 by_cases c1 : j < t
 ·rw [if_pos c1, decide_eq_false (show ¬ j ≥ t by omega)]; simp
 ·rw [if_neg c1]
  by_cases c2 : j = t
  ·subst c2; simp
  ·obtain ⟨d, rfl⟩ : ∃ d, j = t + 1 + d := ⟨j - t - 1, by omega⟩
   rw [show t + 1 + d - t = d + 1 by omega]
   have a1 : (2 * q + 1).testBit (d + 1) = q.testBit d := by rw [Nat.testBit_succ, show (2 * q + 1) / 2 = q by omega]
   have a2 : (2 * q).testBit (d + 1) = q.testBit d := by rw [Nat.testBit_succ, show 2 * q / 2 = q by omega]
   rw [a1, a2, decide_eq_true (show t + 1 + d ≠ t by omega)]
   cases q.testBit d <;> simp

def restF (f : Nat → Bool) (i : Nat) : Nat → Bool := fun b => decide (i ≤ b) && f b
theorem rest_no {f : Nat → Bool} {i : Nat} (h : f i = false) : restF f i = restF f (i + 1) := by
 funext b
 unfold restF
 by_cases c : b = i
 ·subst c; rw [h]; simp
 ·rw [show decide (i ≤ b) = decide (i + 1 ≤ b) from decide_eq_decide.2 (by omega)]
theorem rest_yes {f : Nat → Bool} {n i : Nat} (hi : i < n) (hn : n ≤ 16) (h : f i = true) : tz 16 (maskOf (restF f i) n) = i ∧ maskOf (restF f i) n &&& (maskOf (restF f i) n - 1) = maskOf (restF f (i + 1)) n ∧ 0 < maskOf (restF f i) n := by
 have hb : (maskOf (restF f i) n).testBit i = true := by rw [maskOf_bit]; simp [restF, hi, h]
 have hl : ∀ j, j < i → (maskOf (restF f i) n).testBit j = false := by
  intro j hj
  rw [maskOf_bit]; simp [restF, show ¬ i ≤ j by omega]
 have h0 : 0 < maskOf (restF f i) n := by
  rcases Nat.eq_zero_or_pos (maskOf (restF f i) n) with c | c
  ·rw [c, Nat.zero_testBit] at hb; cases hb
  ·exact c
 have ht := tz_low 16 _ i (by omega) hb hl
 obtain ⟨t, q, _, h2, h3⟩ := tz_bit 16 (maskOf (restF f i) n) h0 (mask16 hn)
 have e : t = i := by rw [← h2]; exact ht
 subst e
 refine ⟨ht, ?_, h0⟩
 apply Nat.eq_of_testBit_eq
 intro j
 rw [clear_low h3, maskOf_bit, maskOf_bit]
 unfold restF
 by_cases c : j = t
 ·rw [c, decide_eq_false (show ¬ t + 1 ≤ t by omega), decide_eq_false (show ¬ t ≠ t by simp)]; simp
 ·rw [show decide (t ≤ j) = decide (t + 1 ≤ j) from decide_eq_decide.2 (by omega), decide_eq_true c, Bool.and_true]
end Go.Proofs.YtbamgkgcoedliaaDoor.Plain

/- Walks counted step by step, in both tables. No condition. -/
namespace Go.Proofs.YtbamgkgcoedliaaDoor.Plain
open Go.RowKit Go.Proofs.YtbamgkgcoedliaaDoorW.PrintWords Go.Proofs.YtbamgkgcoedliaaDoorW.PrintLast
set_option linter.unusedVariables false
open Q

theorem listed_ev {n : Nat} (hn : n ≤ 16) (f : Nat → Bool) : Ev (fun k => impl_listed.f k ((maskOf f n : Nat) : Int)) (posL f n) := by
 have key : ∀ d i (out : List Int), n - i = d → i ≤ n → out.length ≤ i → Ev (fun k => impl_listed.l0 k ((maskOf (restF f i) n : Nat) : Int) out) (out ++ posFrom f n i) := by
  intro d
  induction d with
  | zero =>
   intro i out hd hi _
   obtain rfl : i = n := by omega
   have hz : maskOf (restF f i) i = 0 := by
    apply Nat.eq_of_testBit_eq
    intro j
    rw [maskOf_bit, Nat.zero_testBit]
    by_cases c : j < i
    ·simp [restF, show ¬ i ≤ j by omega]
    ·simp [c]
   rw [hz, posFrom_end _ (Nat.le_refl _), List.append_nil]
   exact Ev.step (f := fun _ => some out) (fun k => by simp only [impl_listed.l0]; rw [if_neg (by omega)]) (Ev.now _)
  | succ d ih =>
   intro i out hd hi ho
   have hi' : i < n := by omega
   rw [posFrom_step f hi']
   by_cases c : f i = true
   ·obtain ⟨e1, e2, e3⟩ := rest_yes hi' hn c
    have hlt := mask16 (f := restF f i) hn
    have e4 : bits_TrailingZeros16.f ((maskOf (restF f i) n : Nat) : Int) = some (i : Int) := by
     unfold bits_TrailingZeros16.f
     rw [if_pos (by omega), if_neg (by omega), Int.toNat_natCast, e1]
    have e5 : IntKind.u16.wrap (((maskOf (restF f i) n : Nat) : Int) - 1) = ((maskOf (restF f i) n - 1 : Nat) : Int) := by
     rw [show ((maskOf (restF f i) n : Nat) : Int) - 1 = ((maskOf (restF f i) n - 1 : Nat) : Int) by omega]
     exact wraps_u16 _ (by omega) (by omega)
    rw [if_pos c, ← List.append_assoc]
    refine Ev.step (f := fun k => impl_listed.l0 k ((maskOf (restF f (i + 1)) n : Nat) : Int) (out ++ [(i : Int)])) (fun k => ?_) (ih (i + 1) _ (by omega) (by omega) (by simp; omega))
    simp only [impl_listed.l0]
    rw [if_pos (by omega), e4, Option.bind_some, if_pos (by omega), e5, and16 hlt (by omega), e2]
   ·have c' : f i = false := by simpa using c
    rw [if_neg c, List.nil_append, rest_no c']
    exact ih (i + 1) out (by omega) (by omega) (by omega)
 have e : maskOf f n = maskOf (restF f 0) n := maskOf_congr (fun b _ => by simp [restF])
 rw [e]
 exact key n 0 [] (by omega) (by omega) (by simp)

theorem paFriends_ev {n : Nat} (hn : n ≤ 12) (f : Nat → Nat → Bool) {a : Nat} (ha : a < n) : Ev (fun k => spec_paFriends.f k (tabB n f) (a : Int)) (posL (f a) n) := by
 unfold spec_paFriends.f
 refine ev_if (fun _ => ?_) (fun c => absurd (by omega) c)
 refine ev_if (fun _ => ?_) (fun c => absurd (by rw [tabB_length]; omega) c)
 rw [tabB_get ha]
 have key : ∀ d i (out : List Int), n - i = d → i ≤ n → out.length ≤ i → Ev (fun k => spec_paFriends.l0 k out (rowB n (f a)) ((rowB n (f a)).length : Int) (i : Int)) (out ++ posFrom (f a) n i) := by
  intro d
  induction d with
  | zero =>
   intro i out hd hi _
   obtain rfl : i = n := by omega
   rw [posFrom_end _ (Nat.le_refl _), List.append_nil]
   exact Ev.step (f := fun _ => some out) (fun k => by simp only [spec_paFriends.l0]; rw [if_neg (by rw [rowB_length]; omega)]) (Ev.now _)
  | succ d ih =>
   intro i out hd hi ho
   have hi' : i < n := by omega
   have hr : rdOf false (rowB n (f a)) (i : Int) = f a i := by rw [rdOfB_at (by rw [rowB_length]; exact hi'), rowB_get]
   rw [posFrom_step (f a) hi']
   refine Ev.step (f := fun k => if f a i = true then spec_paFriends.l0 k (out ++ [(i : Int)]) (rowB n (f a)) ((rowB n (f a)).length : Int) ((i + 1 : Nat) : Int) else spec_paFriends.l0 k out (rowB n (f a)) ((rowB n (f a)).length : Int) ((i + 1 : Nat) : Int)) (fun k => ?_) ?_
   ·simp only [spec_paFriends.l0]
    rw [if_pos (by rw [rowB_length]; omega), if_pos (by omega), if_pos (by rw [rowB_length]; omega), hr, if_pos (show out.length < 17592186044416 by omega), succ_cast hi' (by omega)]
   ·refine ev_if (fun c => ?_) (fun c => ?_)
    ·rw [if_pos c, ← List.append_assoc]
     exact ih (i + 1) _ (by omega) (by omega) (by simp; omega)
    ·rw [if_neg c, List.nil_append]
     exact ih (i + 1) out (by omega) (by omega) (by omega)
 exact key n 0 [] (by omega) (by omega) (by simp)

theorem posL_bounds {f : Nat → Bool} {n : Nat} {x : Int} (h : x ∈ posL f n) : 0 ≤ x ∧ x < (n : Int) := by
 obtain ⟨b, h1, _, rfl⟩ := mem_posL.1 h
 omega

end Go.Proofs.YtbamgkgcoedliaaDoor.Plain

/- Least lengths of walks from one person: what fixes them, by layers and by a queue. No condition. -/
namespace Go.Proofs.YtbamgkgcoedliaaDoor.Plain
open Go.RowKit Go.Proofs.YtbamgkgcoedliaaDoorW.PrintWords Go.Proofs.YtbamgkgcoedliaaDoorW.PrintLast
set_option linter.unusedVariables false
open Q

/-- What the distances from a are: -1 where there is no walk. -/
structure IsDist (n : Nat) (f : Nat → Nat → Bool) (a : Nat) (o : Nat → Int) : Prop where
 start : o a = 0
 low : ∀ b, b < n → -1 ≤ o b
 zero : ∀ b, b < n → o b = 0 → b = a
 back : ∀ b, b < n → 1 ≤ o b → ∃ c, c < n ∧ f c b = true ∧ o c = o b - 1
 on : ∀ c b, c < n → b < n → 0 ≤ o c → f c b = true → 0 ≤ o b ∧ o b ≤ o c + 1
theorem IsDist.le {n : Nat} {f : Nat → Nat → Bool} {a : Nat} {o p : Nat → Int} (ha : a < n) (ho : IsDist n f a o) (hp : IsDist n f a p) : ∀ (v : Nat) b, b < n → o b = (v : Int) → 0 ≤ p b ∧ p b ≤ o b
 | 0, b, hb, e => by
  have := ho.zero b hb (by omega)
  subst this
  rw [hp.start, ho.start]; omega
 | v + 1, b, hb, e => by
  obtain ⟨c, hc, hf, e2⟩ := ho.back b hb (by omega)
  obtain ⟨h1, h2⟩ := IsDist.le ha ho hp v c hc (by omega)
  obtain ⟨h3, h4⟩ := hp.on c b hc hb h1 hf
  exact ⟨h3, by omega⟩
theorem IsDist.unique {n : Nat} {f : Nat → Nat → Bool} {a : Nat} {o p : Nat → Int} (ha : a < n) (ho : IsDist n f a o) (hp : IsDist n f a p) {b : Nat} (hb : b < n) : o b = p b := by
 have l1 := ho.low b hb
 have l2 := hp.low b hb
 by_cases c : 0 ≤ o b
 ·obtain ⟨h1, h2⟩ := IsDist.le ha ho hp (o b).toNat b hb (by omega)
  obtain ⟨h3, h4⟩ := IsDist.le ha hp ho (p b).toNat b hb (by omega)
  omega
 ·by_cases d : 0 ≤ p b
  ·obtain ⟨h3, h4⟩ := IsDist.le ha hp ho (p b).toNat b hb (by omega)
   omega
  ·omega
theorem cnt_mono {f g : Nat → Bool} : ∀ {n : Nat}, (∀ b, b < n → f b = true → g b = true) → cnt f n ≤ cnt g n
 | 0, _ => Nat.le_refl _
 | n + 1, h => by
  have ih := cnt_mono (n := n) (fun b hb => h b (by omega))
  rw [cnt_succ, cnt_succ]
  by_cases c : f n = true
  ·rw [if_pos c, if_pos (h n (by omega) c)]; omega
  ·rw [if_neg c]; split <;> omega
theorem cnt_strict {f g : Nat → Bool} : ∀ {n : Nat}, (∀ b, b < n → f b = true → g b = true) → (∃ b, b < n ∧ f b = false ∧ g b = true) → cnt f n < cnt g n
 | 0, _, ⟨b, hb, _⟩ => by omega
 | n + 1, h, ⟨b, hb, h1, h2⟩ => by
  rw [cnt_succ, cnt_succ]
  by_cases e : b = n
  ·subst e
   have := cnt_mono (n := b) (fun c hc => h c (by omega))
   rw [h1, h2]; simp; omega
  ·have ih := cnt_strict (n := n) (fun b hb => h b (by omega)) ⟨b, by omega, h1, h2⟩
   by_cases c : f n = true
   ·rw [if_pos c, if_pos (h n (by omega) c)]; omega
   ·rw [if_neg c]; split <;> omega

/-- Layers: those seen before, the edge, and the lengths so far. -/
structure Layer (n : Nat) (f : Nat → Nat → Bool) (a : Nat) (far : Nat) (S E : Nat → Bool) (o : Nat → Int) : Prop where
 seen : ∀ b, b < n → (S b = true ↔ 0 ≤ o b)
 low : ∀ b, b < n → -1 ≤ o b
 less : ∀ b, b < n → o b < (far : Int)
 new : ∀ b, b < n → E b = true → S b = false
 first : far = 0 → ∀ b, b < n → (E b = true ↔ b = a)
 start : 0 < far → o a = 0
 zero : ∀ b, b < n → o b = 0 → b = a
 back : ∀ b, b < n → 1 ≤ o b → ∃ c, c < n ∧ f c b = true ∧ o c = o b - 1
 edge : 0 < far → ∀ b, b < n → E b = true → ∃ c, c < n ∧ f c b = true ∧ o c = (far : Int) - 1
 on : ∀ c b, c < n → b < n → 0 ≤ o c → f c b = true → (0 ≤ o b ∧ o b ≤ o c + 1) ∨ (E b = true ∧ o c + 1 = (far : Int))

theorem Layer.done {n far : Nat} {f : Nat → Nat → Bool} {a : Nat} {S E : Nat → Bool} {o : Nat → Int} (ha : a < n) (h : Layer n f a far S E o) (he : ∀ b, b < n → E b = false) : IsDist n f a o := by
 have hf : 0 < far := by
  rcases Nat.eq_zero_or_pos far with c | c
  ·have := (h.first c a ha).2 rfl
   rw [he a ha] at this; cases this
  ·exact c
 refine ⟨h.start hf, h.low, h.zero, h.back, fun c b hc hb h1 h2 => ?_⟩
 rcases h.on c b hc hb h1 h2 with q | ⟨q, _⟩
 ·exact q
 ·rw [he b hb] at q; cases q

theorem Layer.next {n far : Nat} {f : Nat → Nat → Bool} {a : Nat} {S E S' E' : Nat → Bool} {o o' : Nat → Int} (ha : a < n) (h : Layer n f a far S E o)
  (hS : ∀ b, b < n → S' b = (S b || E b)) (ho : ∀ b, b < n → o' b = if E b = true then (far : Int) else o b)
  (hE : ∀ b, b < n → (E' b = true ↔ (∃ c, c < n ∧ E c = true ∧ f c b = true) ∧ S' b = false)) : Layer n f a (far + 1) S' E' o' := by
 have hoE : ∀ b, b < n → E b = true → o' b = (far : Int) := fun b hb e => by rw [ho b hb, if_pos e]
 have hoN : ∀ b, b < n → ¬ E b = true → o' b = o b := fun b hb e => by rw [ho b hb, if_neg e]
 have hoS : ∀ b, b < n → 0 ≤ o b → o' b = o b := fun b hb e => by
  apply hoN b hb
  intro q
  have := h.new b hb q
  rw [(h.seen b hb).2 e] at this; cases this
 constructor
 ·intro b hb
  rw [hS b hb, Bool.or_eq_true, h.seen b hb]
  by_cases e : E b = true
  ·rw [hoE b hb e]; constructor
   ·intro _; omega
   ·intro _; exact Or.inr e
  ·rw [hoN b hb e]; constructor
   ·rintro (q | q)
    ·exact q
    ·exact absurd q e
   ·intro q; exact Or.inl q
 ·intro b hb
  by_cases e : E b = true
  ·rw [hoE b hb e]; omega
  ·rw [hoN b hb e]; exact h.low b hb
 ·intro b hb
  by_cases e : E b = true
  ·rw [hoE b hb e]; omega
  ·rw [hoN b hb e]; have := h.less b hb; omega
 ·intro b hb q
  exact ((hE b hb).1 q).2
 ·intro q; omega
 ·intro _
  by_cases z : far = 0
  ·rw [hoE a ha ((h.first z a ha).2 rfl), z]; rfl
  ·rw [hoS a ha (by rw [h.start (by omega)]; omega)]; exact h.start (by omega)
 ·intro b hb q
  by_cases e : E b = true
  ·rw [hoE b hb e] at q
   exact (h.first (by omega) b hb).1 e
  ·rw [hoN b hb e] at q; exact h.zero b hb q
 ·intro b hb q
  by_cases e : E b = true
  ·rw [hoE b hb e] at q ⊢
   obtain ⟨c, h1, h2, h3⟩ := h.edge (by omega) b hb e
   exact ⟨c, h1, h2, by rw [hoS c h1 (by omega)]; exact h3⟩
  ·rw [hoN b hb e] at q ⊢
   obtain ⟨c, h1, h2, h3⟩ := h.back b hb q
   exact ⟨c, h1, h2, by rw [hoS c h1 (by omega)]; exact h3⟩
 ·intro _ b hb q
  obtain ⟨⟨c, h1, h2, h3⟩, _⟩ := (hE b hb).1 q
  exact ⟨c, h1, h3, by rw [hoE c h1 h2]; omega⟩
 ·intro c b hc hb q hf
  by_cases e : E c = true
  ·rw [hoE c hc e]
   cases s : S' b with
   | false => exact Or.inr ⟨(hE b hb).2 ⟨⟨c, hc, e, hf⟩, s⟩, by omega⟩
   | true =>
    left
    rw [hS b hb, Bool.or_eq_true] at s
    by_cases eb : E b = true
    ·rw [hoE b hb eb]; omega
    ·rw [hoN b hb eb]
     have sb := s.resolve_right eb
     have := (h.seen b hb).1 sb
     have := h.less b hb
     omega
  ·rw [hoN c hc e] at q ⊢
   left
   rcases h.on c b hc hb q hf with ⟨q1, q2⟩ | ⟨q1, q2⟩
   ·rw [hoS b hb q1]; exact ⟨q1, q2⟩
   ·rw [hoE b hb q1]; omega

theorem Layer.begin {n : Nat} {f : Nat → Nat → Bool} {a : Nat} {S E : Nat → Bool} {o : Nat → Int} (hS : ∀ b, b < n → S b = false) (hE : ∀ b, b < n → (E b = true ↔ b = a)) (ho : ∀ b, b < n → o b = -1) : Layer n f a 0 S E o := by
 constructor
 ·intro b hb; rw [hS b hb, ho b hb]; simp
 ·intro b hb; rw [ho b hb]; omega
 ·intro b hb; rw [ho b hb]; omega
 ·intro b hb _; exact hS b hb
 ·intro _; exact hE
 ·intro q; omega
 ·intro b hb q; rw [ho b hb] at q; omega
 ·intro b hb q; rw [ho b hb] at q; omega
 ·intro q; omega
 ·intro c b hc hb q; rw [ho c hc] at q; omega

/-- A queue of those seen, of whom the first k are done. -/
structure Queue (n : Nat) (f : Nat → Nat → Bool) (a k : Nat) (q : List Int) (o : Nat → Int) : Prop where
 many : q.length = cnt (fun b => decide (0 ≤ o b)) n
 mem : ∀ b : Nat, b < n → ((b : Int) ∈ q ↔ 0 ≤ o b)
 all : ∀ x ∈ q, 0 ≤ x ∧ x < (n : Int)
 low : ∀ b, b < n → -1 ≤ o b
 start : o a = 0
 zero : ∀ b, b < n → o b = 0 → b = a
 back : ∀ b, b < n → 1 ≤ o b → ∃ c, c < n ∧ f c b = true ∧ o c = o b - 1
 rise : ∀ i j, (hj : j < q.length) → (hij : i < j) → o q[i].toNat ≤ o q[j].toNat
 top : ∀ i, (hi : i < q.length) → (hk : k < q.length) → o q[i].toNat ≤ o q[k].toNat + 1
 cap : ∀ b, b < n → o b ≤ (q.length : Int)
 done : ∀ i b, (hi : i < q.length) → i < k → b < n → f q[i].toNat b = true → 0 ≤ o b ∧ o b ≤ o q[i].toNat + 1
theorem Queue.le {n a k : Nat} {f : Nat → Nat → Bool} {q : List Int} {o : Nat → Int} (h : Queue n f a k q o) : q.length ≤ n := by
 rw [h.many]; unfold cnt
 have := List.countP_le_length (p := fun b => decide (0 ≤ o b)) (l := List.range n)
 simpa using this
theorem Queue.finish {n a k : Nat} {f : Nat → Nat → Bool} {q : List Int} {o : Nat → Int} (h : Queue n f a k q o) (hk : q.length ≤ k) : IsDist n f a o := by
 refine ⟨h.start, h.low, h.zero, h.back, fun c b hc hb h1 h2 => ?_⟩
 obtain ⟨i, hi, e⟩ := List.getElem_of_mem ((h.mem c hc).2 h1)
 have e2 : q[i].toNat = c := by omega
 have := h.done i b hi (by omega) hb (by rw [e2]; exact h2)
 rw [e2] at this; exact this
/-- One more is seen, a friend of the one at k. -/
theorem Queue.push {n a k b : Nat} {f : Nat → Nat → Bool} {q : List Int} {o o' : Nat → Int} (ha : a < n) (h : Queue n f a k q o) (hk : k < q.length) (hb : b < n) (hf : f q[k].toNat b = true) (hn : o b < 0)
  (ho : ∀ c, c < n → o' c = if c = b then o q[k].toNat + 1 else o c) : Queue n f a k (q ++ [(b : Int)]) o' := by
 have hm : ∀ i, (hi : i < q.length) → q[i].toNat < n ∧ 0 ≤ o q[i].toNat ∧ ((q[i].toNat : Nat) : Int) = q[i] := fun i hi => by
  have r := h.all q[i] (List.getElem_mem _)
  exact ⟨by omega, (h.mem q[i].toNat (by omega)).1 (by rw [Int.toNat_of_nonneg r.1]; exact List.getElem_mem _), by omega⟩
 have hob : o' b = o q[k].toNat + 1 := by rw [ho b hb, if_pos rfl]
 have hos : ∀ c, c < n → 0 ≤ o c → o' c = o c := fun c hc e => by
  rw [ho c hc, if_neg]; intro z; subst z; omega
 have hoq : ∀ i, (hi : i < q.length) → o' q[i].toNat = o q[i].toNat := fun i hi => hos _ (hm i hi).1 (hm i hi).2.1
 have hk0 := (hm k hk).2.1
 have hsgn : ∀ c, c < n → (0 ≤ o' c ↔ 0 ≤ o c ∨ c = b) := fun c hc => by
  rw [ho c hc]
  by_cases e : c = b
  ·rw [if_pos e]; constructor
   ·intro _; exact Or.inr e
   ·intro _; omega
  ·rw [if_neg e]; constructor
   ·intro z; exact Or.inl z
   ·rintro (z | z)
    ·exact z
    ·exact absurd z e
 have hlast : ∀ i, (hi : i < (q ++ [(b : Int)]).length) → (i < q.length) ∨ (i = q.length ∧ (q ++ [(b : Int)])[i] = (b : Int)) := fun i hi => by
  by_cases c : i < q.length
  ·exact Or.inl c
  ·right
   rw [List.length_append] at hi
   have e : i = q.length := by simp at hi; omega
   subst e
   exact ⟨rfl, by simp⟩
 refine ⟨?_, ?_, ?_, ?_, ?_, ?_, ?_, ?_, ?_, ?_, ?_⟩
 ·rw [List.length_append, h.many]
  symm
  refine cnt_one hb (decide_eq_false (by omega)) (fun c hc => ?_)
  rw [Bool.eq_iff_iff]
  simp only [decide_eq_true_eq, Bool.or_eq_true]
  exact hsgn c hc
 ·intro c hc
  rw [hsgn c hc, List.mem_append, h.mem c hc, List.mem_singleton]
  constructor
  ·rintro (z | z)
   ·exact Or.inl z
   ·exact Or.inr (by omega)
  ·rintro (z | z)
   ·exact Or.inl z
   ·exact Or.inr (by omega)
 ·intro x hx
  rcases List.mem_append.1 hx with z | z
  ·exact h.all x z
  ·rw [List.mem_singleton] at z; omega
 ·intro c hc
  rw [ho c hc]
  have := h.low c hc
  split <;> omega
 ·rw [hos a ha (by rw [h.start]; omega)]; exact h.start
 ·intro c hc e
  rw [ho c hc] at e
  by_cases z : c = b
  ·rw [if_pos z] at e; omega
  ·rw [if_neg z] at e; exact h.zero c hc e
 ·intro c hc e
  by_cases z : c = b
  ·subst z
   exact ⟨q[k].toNat, (hm k hk).1, hf, by rw [hoq k hk, hob]; omega⟩
  ·have e2 : o' c = o c := by rw [ho c hc, if_neg z]
   rw [e2] at e ⊢
   obtain ⟨d, h1, h2, h3⟩ := h.back c hc e
   exact ⟨d, h1, h2, by rw [hos d h1 (by omega)]; exact h3⟩
 ·intro i j hj hij
  rcases hlast j hj with c | ⟨c, e⟩
  ·rw [List.getElem_append_left c, List.getElem_append_left (by omega), hoq j c, hoq i (by omega)]
   exact h.rise i j c hij
  ·rw [e, Int.toNat_natCast, hob, List.getElem_append_left (by omega), hoq i (by omega)]
   exact h.top i (by omega) hk
 ·intro i hi hk2
  rw [List.getElem_append_left hk, hoq k hk]
  rcases hlast i hi with c | ⟨c, e⟩
  ·rw [List.getElem_append_left c, hoq i c]; exact h.top i c hk
  ·rw [e, Int.toNat_natCast, hob]; omega
 ·intro c hc
  rw [ho c hc, List.length_append]
  have h1 := h.cap q[k].toNat (hm k hk).1
  have h2 := h.cap c hc
  simp only [List.length_singleton]
  split <;> omega
 ·intro i c hi hik hc hfc
  rw [List.getElem_append_left (by omega)] at hfc ⊢
  rw [hoq i (by omega)]
  obtain ⟨z1, z2⟩ := h.done i c (by omega) hik hc hfc
  rw [hos c hc z1]
  exact ⟨z1, z2⟩
theorem Queue.step {n a k : Nat} {f : Nat → Nat → Bool} {q : List Int} {o : Nat → Int} (h : Queue n f a k q o) (hk : k < q.length) (hd : ∀ b, b < n → f q[k].toNat b = true → 0 ≤ o b) : Queue n f a (k + 1) q o := by
 have hm : ∀ i, (hi : i < q.length) → q[i].toNat < n ∧ 0 ≤ o q[i].toNat ∧ ((q[i].toNat : Nat) : Int) = q[i] := fun i hi => by
  have r := h.all q[i] (List.getElem_mem _)
  exact ⟨by omega, (h.mem q[i].toNat (by omega)).1 (by rw [Int.toNat_of_nonneg r.1]; exact List.getElem_mem _), by omega⟩
 refine ⟨h.many, h.mem, h.all, h.low, h.start, h.zero, h.back, h.rise, fun i hi hk2 => ?_, h.cap, fun i b hi hik hb hf => ?_⟩
 ·have h1 := h.top i hi hk
  have h2 := h.rise k (k + 1) hk2 (by omega)
  omega
 ·by_cases e : i = k
  ·subst e
   have z := hd b hb hf
   obtain ⟨j, hj, e2⟩ := List.getElem_of_mem ((h.mem b hb).2 z)
   have := h.top j hj hi
   rw [e2, Int.toNat_natCast] at this
   exact ⟨z, this⟩
  ·exact h.done i b hi (by omega) hb hf
theorem Queue.begin {n a : Nat} {f : Nat → Nat → Bool} {o : Nat → Int} (ha : a < n) (h0 : o a = 0) (ho : ∀ b, b < n → b ≠ a → o b = -1) : Queue n f a 0 [(a : Int)] o := by
 have hz : ∀ b, b < n → 0 ≤ o b → b = a := fun b hb e => by
  by_cases z : b = a
  ·exact z
  ·have := ho b hb z; omega
 refine ⟨?_, ?_, ?_, ?_, ?_, ?_, ?_, ?_, ?_, ?_, ?_⟩
 ·have hc : cnt (fun _ => false) n = 0 := by unfold cnt; simp
  have := cnt_one (f := fun _ => false) (g := fun b => decide (0 ≤ o b)) (n := n) ha rfl (fun b hb => by
   rw [Bool.eq_iff_iff]
   simp only [decide_eq_true_eq, Bool.or_eq_true]
   constructor
   ·intro e; exact Or.inr (hz b hb e)
   ·rintro (z | z)
    ·cases z
    ·subst z; omega)
  rw [this, hc]; rfl
 ·intro b hb
  rw [List.mem_singleton]
  constructor
  ·intro e
   have : b = a := by omega
   subst this; omega
  ·intro e; rw [hz b hb e]
 ·intro x hx
  rw [List.mem_singleton] at hx; omega
 ·intro b hb
  by_cases z : b = a
  ·subst z; omega
  ·rw [ho b hb z]; omega
 ·exact h0
 ·intro b hb e; exact hz b hb (by omega)
 ·intro b hb e
  have := hz b hb (by omega)
  subst this; omega
 ·intro i j hj hij
  simp at hj; omega
 ·intro i hi _
  have : i = 0 := by simp at hi; omega
  subst this
  simp; omega
 ·intro b hb
  rw [List.length_singleton]
  by_cases z : b = a
  ·subst z; omega
  ·rw [ho b hb z]; omega
 ·intro i b hi hik; omega
end Go.Proofs.YtbamgkgcoedliaaDoor.Plain

/- The least lengths of walks from one person, in both tables. No condition. -/
namespace Go.Proofs.YtbamgkgcoedliaaDoor.Plain
open Go.RowKit Go.Proofs.YtbamgkgcoedliaaDoorW.PrintWords Go.Proofs.YtbamgkgcoedliaaDoorW.PrintLast
set_option linter.unusedVariables false
open Q

theorem rd_set {l : List Int} {i : Nat} (v : Int) {b : Nat} (hb : b < l.length) : rd (l.set i v) (b : Int) = if b = i then v else rd l (b : Int) := by
 rw [rd_at (by rw [List.length_set]; exact hb), List.getElem_set, rd_at hb]
 by_cases e : i = b
 ·rw [if_pos e, if_pos e.symm]
 ·rw [if_neg e, if_neg (fun q => e q.symm)]
theorem rd_replicate {n : Nat} (v : Int) {b : Nat} (hb : b < n) : rd (List.replicate n v) (b : Int) = v := by
 rw [rd_at (by rw [List.length_replicate]; exact hb), List.getElem_replicate]
theorem andNot16 (f g : Nat → Bool) {n : Nat} (hn : n ≤ 16) : Go.bits .andNot .u16 ((maskOf f n : Nat) : Int) ((maskOf g n : Nat) : Int) = ((maskOf (fun b => f b && !g b) n : Nat) : Int) := by
 have ha := mask16 (f := f) hn
 have hb := mask16 (f := g) hn
 have e : (BitVec.ofNat 16 (maskOf f n) &&& ~~~BitVec.ofNat 16 (maskOf g n)).toNat = maskOf (fun b => f b && !g b) n := by
  apply Nat.eq_of_testBit_eq
  intro j
  rw [BitVec.testBit_toNat, BitVec.getLsbD_and, BitVec.getLsbD_not, BitVec.getLsbD_ofNat, BitVec.getLsbD_ofNat, maskOf_bit, maskOf_bit, maskOf_bit]
  by_cases c : j < n
  ·have c2 : j < 16 := by omega
   simp [c, c2]
  ·simp [c]
 show IntKind.u16.wrap (((BitVec.ofInt 16 ((maskOf f n : Nat) : Int) &&& ~~~BitVec.ofInt 16 ((maskOf g n : Nat) : Int)).toNat : Nat) : Int) = _
 rw [BitVec.ofInt_natCast, BitVec.ofInt_natCast, e]
 have := mask16 (f := fun b => f b && !g b) hn
 exact wraps_u16 _ (by omega) (by omega)
theorem or16m (f g : Nat → Bool) {n : Nat} (hn : n ≤ 16) : Go.bits .or .u16 ((maskOf f n : Nat) : Int) ((maskOf g n : Nat) : Int) = ((maskOf (fun b => f b || g b) n : Nat) : Int) := by
 rw [or16 (mask16 hn) (mask16 hn), mask_or]
theorem mask_zero {f : Nat → Bool} {n : Nat} : maskOf f n = 0 ↔ ∀ b, b < n → f b = false := by
 constructor
 ·intro h b hb
  have q := maskOf_bit f n b
  rw [h, Nat.zero_testBit] at q
  simpa [hb] using q.symm
 ·intro h
  apply Nat.eq_of_testBit_eq
  intro j
  rw [maskOf_bit, Nat.zero_testBit]
  by_cases c : j < n
  ·rw [h j c]; simp
  ·simp [c]

/-- One number set at some places. -/
def setAll (v : Int) (l L : List Int) : List Int := l.foldl (fun o c => o.set c.toNat v) L
theorem setAll_length (v : Int) : ∀ (l L : List Int), (setAll v l L).length = L.length
 | [], L => rfl
 | c :: l, L => by
  show (setAll v l (L.set c.toNat v)).length = _
  rw [setAll_length v l, List.length_set]
theorem setAll_take (v : Int) (l L : List Int) {i : Nat} (h : i < l.length) : setAll v (l.take (i + 1)) L = (setAll v (l.take i) L).set (l[i]).toNat v := by
 rw [List.take_succ_eq_append_getElem h]
 unfold setAll
 rw [List.foldl_append]; rfl
theorem setAll_rd (v : Int) {b : Nat} : ∀ (l L : List Int), (∀ x ∈ l, 0 ≤ x) → b < L.length → rd (setAll v l L) (b : Int) = if (b : Int) ∈ l then v else rd L (b : Int)
 | [], L, _, _ => by rw [if_neg (by simp)]; rfl
 | c :: l, L, h, hb => by
  show rd (setAll v l (L.set c.toNat v)) (b : Int) = _
  rw [setAll_rd v l (L.set c.toNat v) (fun x hx => h x (by simp [hx])) (by rw [List.length_set]; exact hb), rd_set v hb]
  have hc := h c (by simp)
  by_cases m : (b : Int) ∈ l
  ·rw [if_pos m, if_pos (by simp [m])]
  ·rw [if_neg m]
   by_cases e : b = c.toNat
   ·have e2 : (b : Int) = c := by omega
    rw [if_pos e, if_pos (by rw [e2]; simp)]
   ·rw [if_neg e, if_neg]
    intro q
    rcases List.mem_cons.1 q with q | q
    ·omega
    ·exact m q
/-- The friends of some people. -/
def nearL (f : Nat → Nat → Bool) (l : List Int) (b : Nat) : Bool := l.any fun c => f c.toNat b
theorem nearL_take (f : Nat → Nat → Bool) (l : List Int) {i : Nat} (h : i < l.length) : nearL f (l.take (i + 1)) = fun b => nearL f (l.take i) b || f (l[i]).toNat b := by
 funext b
 unfold nearL
 rw [List.take_succ_eq_append_getElem h, List.any_append]
 simp

theorem distI_from {n : Nat} (hn : n ≤ 12) (f : Nat → Nat → Bool) {a : Nat} (ha : a < n) : ∀ (d far : Nat) (S E : Nat → Bool) (L : List Int), L.length = n → Layer n f a far S E (fun b => rd L (b : Int)) → far ≤ cnt S n → n - cnt S n ≤ d →
  ∃ R : List Int, R.length = n ∧ IsDist n f a (fun b => rd R (b : Int)) ∧ Ev (fun k => impl_table_distances.l0 k (tabF n f) L ((maskOf S n : Nat) : Int) ((maskOf E n : Nat) : Int) (far : Int)) R := by
 intro d
 induction d with
 | zero =>
  intro far S E L hL h hfar hd
  have hS : ∀ b, b < n → S b = true := by
   intro b hb
   cases c : S b with
   | true => rfl
   | false =>
    have := cnt_strict (f := S) (g := fun _ => true) (n := n) (fun _ _ _ => rfl) ⟨b, hb, c, rfl⟩
    have := cnt_le (fun _ => true) n
    omega
  have hE : ∀ b, b < n → E b = false := by
   intro b hb
   cases c : E b with
   | false => rfl
   | true => have := h.new b hb c; rw [hS b hb] at this; cases this
  refine ⟨L, hL, h.done ha hE, ?_⟩
  exact Ev.step (f := fun _ => some L) (fun k => by simp only [impl_table_distances.l0]; rw [mask_zero.2 hE, if_pos (by rfl)]) (Ev.now _)
 | succ d ih =>
  intro far S E L hL h hfar hd
  by_cases hz : maskOf E n = 0
  ·refine ⟨L, hL, h.done ha (mask_zero.1 hz), ?_⟩
   exact Ev.step (f := fun _ => some L) (fun k => by simp only [impl_table_distances.l0]; rw [hz, if_pos (by rfl)]) (Ev.now _)
  ·obtain ⟨e, he, hee⟩ : ∃ e, e < n ∧ E e = true := by
    rcases Classical.em (∃ e, e < n ∧ E e = true) with c | c
    ·exact c
    ·exact absurd (mask_zero.2 (fun b hb => by
      cases q : E b with
      | false => rfl
      | true => exact absurd ⟨b, hb, q⟩ c)) hz
   have hcl := cnt_le S n
   have hmore : cnt S n < cnt (fun b => S b || E b) n := cnt_strict (fun b _ q => by simp [q]) ⟨e, he, h.new e he hee, by simp [hee]⟩
   -- the next layer
   have hlist := listed_ev (n := n) (by omega) E
   have hbd : ∀ x ∈ posL E n, 0 ≤ x ∧ x < (n : Int) := fun x hx => posL_bounds hx
   have hpl := posL_le E n
   have hmem : ∀ b : Nat, b < n → ((b : Int) ∈ posL E n ↔ E b = true) := fun b hb => by
    rw [mem_posL]
    constructor
    ·rintro ⟨c, _, h2, e⟩
     have : b = c := by omega
     subst this; exact h2
    ·intro q; exact ⟨b, hb, q, rfl⟩
   have hL2 : (setAll (far : Int) (posL E n) L).length = n := by rw [setAll_length]; exact hL
   have hnext : Layer n f a (far + 1) (fun b => S b || E b) (fun b => nearL f (posL E n) b && !(S b || E b)) (fun b => rd (setAll (far : Int) (posL E n) L) (b : Int)) := by
    refine h.next ha (fun b _ => rfl) (fun b hb => ?_) (fun b hb => ?_)
    ·show rd (setAll (far : Int) (posL E n) L) (b : Int) = _
     rw [setAll_rd _ _ _ (fun x hx => (hbd x hx).1) (by rw [hL]; exact hb)]
     by_cases q : E b = true
     ·rw [if_pos ((hmem b hb).2 q), if_pos q]
     ·rw [if_neg (fun z => q ((hmem b hb).1 z)), if_neg q]
    ·simp only [Bool.and_eq_true, Bool.not_eq_true']
     have : nearL f (posL E n) b = true ↔ ∃ c, c < n ∧ E c = true ∧ f c b = true := by
      unfold nearL
      rw [List.any_eq_true]
      constructor
      ·rintro ⟨x, hx, q⟩
       obtain ⟨c, h1, h2, rfl⟩ := mem_posL.1 hx
       exact ⟨c, h1, h2, by simpa using q⟩
      ·rintro ⟨c, h1, h2, h3⟩
       exact ⟨(c : Int), (hmem c h1).2 h2, by simpa using h3⟩
     rw [this]
   obtain ⟨R, hR, hD, hev⟩ := ih (far + 1) _ _ _ hL2 hnext (by omega) (by omega)
   refine ⟨R, hR, hD, ?_⟩
   refine Ev.step (f := fun k => (impl_listed.f k ((maskOf E n : Nat) : Int)).bind fun t => impl_table_distances.l1 k (tabF n f) L (Go.bits .or .u16 ((maskOf S n : Nat) : Int) ((maskOf E n : Nat) : Int)) (far : Int) 0 t (t.length : Int) 0) (fun k => by
    simp only [impl_table_distances.l0]; rw [if_neg (by omega)]) ?_
   refine Ev.bind hlist ?_
   rw [or16m S E (by omega)]
   generalize hs : posL E n = s at hbd hpl hev
   have q1 := ev_up (n := s.length) (loop := fun k j => impl_table_distances.l1 k (tabF n f) (setAll (far : Int) (s.take j) L) ((maskOf (fun b => S b || E b) n : Nat) : Int) (far : Int) ((maskOf (nearL f (s.take j)) n : Nat) : Int) s (s.length : Int) (j : Int)) (r := fun _ => R)
    (Ev.step (f := fun k => impl_table_distances.l0 k (tabF n f) (setAll (far : Int) s L) ((maskOf (fun b => S b || E b) n : Nat) : Int) ((maskOf (fun b => nearL f s b && !(S b || E b)) n : Nat) : Int) ((far + 1 : Nat) : Int)) (fun k => by
     simp only [impl_table_distances.l1]
     rw [if_neg (by omega), List.take_length, andNot16 _ _ (by omega), wrap_id (by omega) (by omega)]; rfl) hev)
    (fun j hj ih2 => by
     have hx := hbd s[j] (List.getElem_mem hj)
     have hl : (setAll (far : Int) (s.take j) L).length = n := by rw [setAll_length]; exact hL
     have ht : rd (tabF n f) s[j] = ((maskOf (f s[j].toNat) n : Nat) : Int) := by
      have := tabF_get (n := n) (f := f) (a := s[j].toNat) (by omega)
      rw [Int.toNat_of_nonneg hx.1] at this; exact this
     refine Ev.step (f := fun k => impl_table_distances.l1 k (tabF n f) (setAll (far : Int) (s.take (j + 1)) L) ((maskOf (fun b => S b || E b) n : Nat) : Int) (far : Int) ((maskOf (nearL f (s.take (j + 1))) n : Nat) : Int) s (s.length : Int) ((j + 1 : Nat) : Int)) (fun k => ?_) ih2
     simp only [impl_table_distances.l1]
     rw [if_pos (by omega), if_pos (by omega), if_pos (by omega), rd_at hj, if_pos (by omega), if_pos (by omega), if_pos (by rw [tabF_length]; omega), ht, or16m _ _ (by omega), setAll_take _ _ _ hj, nearL_take f s hj, succ_cast hj (by omega)]) 0 (Nat.zero_le _)
   have e0 : ((maskOf (nearL f (s.take 0)) n : Nat) : Int) = 0 := by
    rw [mask_zero.2 (fun b _ => by rfl)]; rfl
   rw [e0] at q1
   exact q1

theorem distI_ev {n : Nat} (hn : n ≤ 12) (f : Nat → Nat → Bool) {a : Nat} (ha : a < n) : ∃ R : List Int, R.length = n ∧ IsDist n f a (fun b => rd R (b : Int)) ∧ Ev (fun k => impl_table_distances.f k (tabF n f) (a : Int)) R := by
 have h : Layer n f a 0 (fun _ => false) (fun b => decide (b = a)) (fun b => rd (List.replicate n (-1)) (b : Int)) :=
  Layer.begin (fun _ _ => rfl) (fun b _ => by simp) (fun b hb => rd_replicate _ hb)
 obtain ⟨R, h1, h2, h3⟩ := distI_from hn f ha n 0 _ _ _ (by simp) h (Nat.zero_le _) (by omega)
 refine ⟨R, h1, h2, ?_⟩
 have e1 : slices_Repeat_int_int.f [(-1)] ((tabF n f).length : Int) = some (List.replicate n (-1)) := by
  unfold slices_Repeat_int_int.f
  rw [if_pos ⟨rfl, by omega, by rw [tabF_length]; omega⟩, tabF_length, Int.toNat_natCast]; rfl
 refine Ev.congr (f := fun k => impl_table_distances.l0 k (tabF n f) (List.replicate n (-1)) 0 (shl .u16 1 (a : Int)) 0) (fun k => ?_) ?_
 ·unfold impl_table_distances.f
  rw [e1, Option.bind_some, if_pos (by omega)]
 ·have e2 : shl .u16 1 (a : Int) = ((maskOf (fun b => decide (b = a)) n : Nat) : Int) := by rw [shl16 (by omega), mask_one ha]
  have e3 : maskOf (fun _ => false) n = 0 := mask_zero.2 (fun _ _ => rfl)
  rw [e3] at h3
  rw [e2]; exact h3

theorem distQ_from {n : Nat} (hn : n ≤ 12) (f : Nat → Nat → Bool) {a : Nat} (ha : a < n) : ∀ (d kk : Nat) (q L : List Int), L.length = n → Queue n f a kk q (fun b => rd L (b : Int)) → kk ≤ q.length → n - kk ≤ d →
  ∃ R : List Int, R.length = n ∧ IsDist n f a (fun b => rd R (b : Int)) ∧ Ev (fun k => spec_cfDistances.l1 k (tabB n f) L q (kk : Int)) R := by
 intro d
 induction d with
 | zero =>
  intro kk q L hL h hk hd
  have := h.le
  refine ⟨L, hL, h.finish (by omega), ?_⟩
  exact Ev.step (f := fun _ => some L) (fun k => by simp only [spec_cfDistances.l1]; rw [if_neg (by omega)]) (Ev.now _)
 | succ d ih =>
  intro kk q L hL h hk hd
  have hqn := h.le
  by_cases hlt : kk < q.length
  ·have hvr := h.all q[kk] (List.getElem_mem hlt)
   have hv : ((q[kk].toNat : Nat) : Int) = q[kk] := by omega
   have hfr := paFriends_ev hn f (a := q[kk].toNat) (by omega)
   rw [hv] at hfr
   have hbd : ∀ x ∈ posL (f q[kk].toNat) n, 0 ≤ x ∧ x < (n : Int) := fun x hx => posL_bounds hx
   have hpl := posL_le (f q[kk].toNat) n
   have hmem : ∀ x, x ∈ posL (f q[kk].toNat) n ↔ ∃ b : Nat, b < n ∧ f q[kk].toNat b = true ∧ x = (b : Int) := fun x => mem_posL
   generalize hs : posL (f q[kk].toNat) n = s at hbd hpl hmem hfr
   have inner : ∀ e j (q2 L2 : List Int), s.length - j = e → j ≤ s.length → L2.length = n → Queue n f a kk q2 (fun b => rd L2 (b : Int)) → (hlt2 : kk < q2.length) → q2[kk] = q[kk] → (∀ i, (hi : i < s.length) → i < j → 0 ≤ rd L2 s[i]) →
     ∃ R : List Int, R.length = n ∧ IsDist n f a (fun b => rd R (b : Int)) ∧ Ev (fun k => spec_cfDistances.l2 k (tabB n f) L2 q2 (kk : Int) s (s.length : Int) (j : Int)) R := by
    intro e
    induction e with
    | zero =>
     intro j q2 L2 he hj hL2 h2 hlt2 hq hdone
     have hj2 : j = s.length := by omega
     subst hj2
     have h3 := h2.step hlt2 (fun b hb hf => by
      rw [hq] at hf
      obtain ⟨i, hi, e⟩ := List.getElem_of_mem ((hmem (b : Int)).2 ⟨b, hb, hf, rfl⟩)
      have := hdone i hi hi
      rw [e] at this; exact this)
     obtain ⟨R, r1, r2, r3⟩ := ih (kk + 1) q2 L2 hL2 h3 (by omega) (by omega)
     refine ⟨R, r1, r2, ?_⟩
     have := h2.le
     exact Ev.step (f := fun k => spec_cfDistances.l1 k (tabB n f) L2 q2 ((kk + 1 : Nat) : Int)) (fun k => by simp only [spec_cfDistances.l2]; rw [if_neg (by omega), wrap_id (by omega) (by omega)]; rfl) r3
    | succ e ihe =>
     intro j q2 L2 he hj hL2 h2 hlt2 hq hdone
     have hj2 : j < s.length := by omega
     have hx := hbd s[j] (List.getElem_mem hj2)
     obtain ⟨b, hb, hfb, hsb⟩ := (hmem s[j]).1 (List.getElem_mem hj2)
     have hq2n := h2.le
     by_cases hnew : rd L2 (b : Int) < 0
     ·have hval : -1 ≤ rd L2 q[kk] ∧ rd L2 q[kk] ≤ (n : Int) + 1 := by
       have h1 := h2.low q[kk].toNat (by omega)
       have h3 := h2.cap q[kk].toNat (by omega)
       simp only [hv] at h1 h3
       omega
      have hset : ∀ c, c < n → rd (L2.set b (wrap64 (rd L2 q[kk] + 1))) (c : Int) = if c = b then rd L2 ((q2[kk].toNat : Nat) : Int) + 1 else rd L2 (c : Int) := by
       intro c hc
       rw [rd_set _ (by omega), hq, hv, wrap_id (by omega) (by omega)]
      have h3 := Queue.push ha h2 hlt2 hb (by rw [hq]; exact hfb) hnew hset
      have hL3 : (L2.set b (wrap64 (rd L2 q[kk] + 1))).length = n := by rw [List.length_set]; exact hL2
      obtain ⟨R, r1, r2, r3⟩ := ihe (j + 1) (q2 ++ [(b : Int)]) (L2.set b (wrap64 (rd L2 q[kk] + 1))) (by omega) (by omega) hL3 h3 (by rw [List.length_append]; omega) (by rw [List.getElem_append_left hlt2]; exact hq) (fun i hi hij => by
       obtain ⟨c, hc, _, hsc⟩ := (hmem s[i]).1 (List.getElem_mem hi)
       rw [hsc]
       have := hset c hc
       rw [this]
       by_cases e1 : c = b
       ·rw [if_pos e1, hq, hv]; omega
       ·rw [if_neg e1]
        have : i ≠ j := by
         intro z; subst z; rw [hsb] at hsc; omega
        have := hdone i hi (by omega)
        rw [hsc] at this; exact this)
      refine ⟨R, r1, r2, ?_⟩
      refine Ev.step (f := fun k => spec_cfDistances.l2 k (tabB n f) (L2.set b (wrap64 (rd L2 q[kk] + 1))) (q2 ++ [(b : Int)]) (kk : Int) s (s.length : Int) ((j + 1 : Nat) : Int)) (fun k => ?_) r3
      simp only [spec_cfDistances.l2]
      rw [if_pos (by omega), if_pos (by omega), if_pos (by omega), rd_at hj2, hsb, if_pos (by omega), if_pos (by omega), if_pos hnew, if_pos (by omega), if_pos (by omega), rd_at hlt2, hq, if_pos (by omega), if_pos (by omega), if_pos (by omega), Int.toNat_natCast, succ_cast hj2 (by omega)]
     ·obtain ⟨R, r1, r2, r3⟩ := ihe (j + 1) q2 L2 (by omega) (by omega) hL2 h2 hlt2 hq (fun i hi hij => by
       by_cases e1 : i = j
       ·subst e1; rw [hsb]; omega
       ·exact hdone i hi (by omega))
      refine ⟨R, r1, r2, ?_⟩
      refine Ev.step (f := fun k => spec_cfDistances.l2 k (tabB n f) L2 q2 (kk : Int) s (s.length : Int) ((j + 1 : Nat) : Int)) (fun k => ?_) r3
      simp only [spec_cfDistances.l2]
      rw [if_pos (by omega), if_pos (by omega), if_pos (by omega), rd_at hj2, hsb, if_pos (by omega), if_pos (by omega), if_neg hnew, succ_cast hj2 (by omega)]
   obtain ⟨R, r1, r2, r3⟩ := inner s.length 0 q L rfl (Nat.zero_le _) hL h hlt rfl (fun i hi hij => by omega)
   refine ⟨R, r1, r2, ?_⟩
   refine Ev.step (f := fun k => (spec_paFriends.f k (tabB n f) q[kk]).bind fun t => spec_cfDistances.l2 k (tabB n f) L q (kk : Int) t (t.length : Int) 0) (fun k => ?_) (Ev.bind hfr r3)
   simp only [spec_cfDistances.l1]
   rw [if_pos (by omega), if_pos (by omega), rd_at hlt]
  ·refine ⟨L, hL, h.finish (by omega), ?_⟩
   exact Ev.step (f := fun _ => some L) (fun k => by simp only [spec_cfDistances.l1]; rw [if_neg (by omega)]) (Ev.now _)

theorem distQ_ev {n : Nat} (hn : n ≤ 12) (f : Nat → Nat → Bool) {a : Nat} (ha : a < n) : ∃ R : List Int, R.length = n ∧ IsDist n f a (fun b => rd R (b : Int)) ∧ Ev (fun k => spec_cfDistances.f k (tabB n f) (a : Int)) R := by
 have hT : (tabB n f).length = n := tabB_length _ _
 have hb : ∀ b, b < n → rd ((List.replicate n (-1)).set a 0) (b : Int) = if b = a then 0 else -1 := fun b hb => by
  rw [rd_set _ (by simpa using hb), rd_replicate _ hb]
 have h : Queue n f a 0 [(a : Int)] (fun b => rd ((List.replicate n (-1)).set a 0) (b : Int)) :=
  Queue.begin ha (by show rd _ _ = _; rw [hb a ha, if_pos rfl]) (fun b hb1 hb2 => by show rd _ _ = _; rw [hb b hb1, if_neg hb2])
 obtain ⟨R, h1, h2, h3⟩ := distQ_from hn f ha n 0 _ _ (by simp) h (by simp) (by omega)
 refine ⟨R, h1, h2, ?_⟩
 refine Ev.congr (f := fun k => spec_cfDistances.l0 k (tabB n f) (a : Int) (List.replicate n 0) (n : Int) 0) (fun k => ?_) ?_
 ·unfold spec_cfDistances.f
  rw [hT, if_pos (by omega), if_pos (by omega), Int.toNat_natCast, Option.bind_some, List.length_replicate]
 ·have q := ev_up (n := n) (loop := fun k i => spec_cfDistances.l0 k (tabB n f) (a : Int) (List.replicate i (-1) ++ List.replicate (n - i) 0) (n : Int) (i : Int)) (r := fun _ => R)
   (Ev.step (f := fun k => spec_cfDistances.l1 k (tabB n f) ((List.replicate n (-1)).set a 0) [(a : Int)] 0) (fun k => by
    simp only [spec_cfDistances.l0]
    rw [if_neg (by omega), Nat.sub_self, List.replicate_zero, List.append_nil, if_pos (by omega), if_pos (by rw [List.length_replicate]; omega), Int.toNat_natCast]) h3)
   (fun i hi ih => by
    refine Ev.step (f := fun k => spec_cfDistances.l0 k (tabB n f) (a : Int) (List.replicate (i + 1) (-1) ++ List.replicate (n - (i + 1)) 0) (n : Int) ((i + 1 : Nat) : Int)) (fun k => ?_) ih
    simp only [spec_cfDistances.l0]
    have e : n - i = (n - (i + 1)) + 1 := by omega
    rw [if_pos (by omega), if_pos (by omega), if_pos (by rw [List.length_append, List.length_replicate, List.length_replicate]; omega), Int.toNat_natCast, List.set_append_right _ _ (by simp), List.length_replicate, Nat.sub_self, e, List.replicate_succ, List.set_cons_zero, succ_cast hi (by omega), List.replicate_succ', List.append_assoc]
    rfl) 0 (Nat.zero_le _)
  simpa using q

open Classical in
/-- The distances from a. -/
noncomputable def distL (n : Nat) (f : Nat → Nat → Bool) (a : Nat) : List Int := if h : ∃ R : List Int, R.length = n ∧ IsDist n f a (fun b => rd R (b : Int)) then Classical.choose h else []
theorem distL_of {n : Nat} {f : Nat → Nat → Bool} {a : Nat} (ha : a < n) {R : List Int} (h1 : R.length = n) (h2 : IsDist n f a (fun b => rd R (b : Int))) : distL n f a = R := by
 have h : ∃ R : List Int, R.length = n ∧ IsDist n f a (fun b => rd R (b : Int)) := ⟨R, h1, h2⟩
 have e : distL n f a = Classical.choose h := by unfold distL; rw [dif_pos h]
 obtain ⟨s1, s2⟩ := Classical.choose_spec h
 rw [e]
 apply List.ext_getElem
 ·rw [s1, h1]
 ·intro i i1 i2
  have := IsDist.unique ha s2 h2 (b := i) (by omega)
  rw [← rd_at i1, ← rd_at i2]; exact this
theorem distI_evL {n : Nat} (hn : n ≤ 12) (f : Nat → Nat → Bool) {a : Nat} (ha : a < n) : Ev (fun k => impl_table_distances.f k (tabF n f) (a : Int)) (distL n f a) := by
 obtain ⟨R, h1, h2, h3⟩ := distI_ev hn f ha
 rw [distL_of ha h1 h2]; exact h3
theorem distQ_evL {n : Nat} (hn : n ≤ 12) (f : Nat → Nat → Bool) {a : Nat} (ha : a < n) : Ev (fun k => spec_cfDistances.f k (tabB n f) (a : Int)) (distL n f a) := by
 obtain ⟨R, h1, h2, h3⟩ := distQ_ev hn f ha
 rw [distL_of ha h1 h2]; exact h3
theorem distL_spec {n : Nat} (hn : n ≤ 12) (f : Nat → Nat → Bool) {a : Nat} (ha : a < n) : (distL n f a).length = n ∧ IsDist n f a (fun b => rd (distL n f a) (b : Int)) := by
 obtain ⟨R, h1, h2, _⟩ := distI_ev hn f ha
 rw [distL_of ha h1 h2]; exact ⟨h1, h2⟩
end Go.Proofs.YtbamgkgcoedliaaDoor.Plain
/- The program's ShortestRound returns what the reference's returns, for all arguments. No condition. -/
namespace Go.Proofs.YtbamgkgcoedliaaDoor.Pure
open Go.RowKit Go.Proofs.YtbamgkgcoedliaaDoorW.PrintWords Go.Proofs.YtbamgkgcoedliaaDoorW.PrintLast
set_option linter.unusedVariables false
open Q Plain

/-- The pairs but for one. -/
def less (l : List Pr) (i : Nat) : List Pr := l.take i ++ l.drop (i + 1)
theorem less_right {n : Nat} {l : List Pr} (hr : Right n l) (i : Nat) : Right n (less l i) := fun x hx => by
 rcases List.mem_append.1 hx with h | h
 ·exact hr x (List.mem_of_mem_take h)
 ·exact hr x (List.mem_of_mem_drop h)
theorem less_adj {n : Nat} {l : List Pr} (hr : Right n l) (hs : ∀ i j, (hj : j < l.length) → (hij : i < j) → lessB l[i] l[j] = true) {i : Nat} (hi : i < l.length) : adj (less l i) = setP (adj l) l[i].f0.toNat l[i].f1.toNat false := by
 have r := hr _ (List.getElem_mem hi)
 funext c d
 rw [Bool.eq_iff_iff]
 have hpair : ∀ j, (hj : j < l.length) → l[j].f0 = l[i].f0 → l[j].f1 = l[i].f1 → j = i := by
  intro j hj e1 e2
  rcases Nat.lt_trichotomy j i with h | h | h
  ·have q := hs j i hi h
   unfold lessB at q
   rw [e1, e2] at q
   simp at q
  ·exact h
  ·have q := hs i j hj h
   unfold lessB at q
   rw [e1, e2] at q
   simp at q
 constructor
 ·intro h
  obtain ⟨y, hy, hm⟩ := adj_true.1 h
  have hne : ∃ j, ∃ hj : j < l.length, j ≠ i ∧ l[j] = y := by
   rcases List.mem_append.1 hy with h | h
   ·obtain ⟨j, hj, e⟩ := List.getElem_of_mem h
    rw [List.length_take] at hj
    rw [List.getElem_take] at e
    exact ⟨j, by omega, by omega, e⟩
   ·obtain ⟨j, hj, e⟩ := List.getElem_of_mem h
    rw [List.length_drop] at hj
    rw [List.getElem_drop] at e
    exact ⟨i + 1 + j, by omega, by omega, e⟩
  obtain ⟨j, hj, hji, rfl⟩ := hne
  have rj := hr _ (List.getElem_mem hj)
  unfold setP
  rw [if_neg]
  ·exact adj_true.2 ⟨_, List.getElem_mem hj, hm⟩
  ·intro q
   refine hji (hpair j hj ?_ ?_) <;> rcases q with ⟨q1, q2⟩ | ⟨q1, q2⟩ <;> rcases hm with ⟨m1, m2⟩ | ⟨m1, m2⟩ <;> omega
 ·intro h
  unfold setP at h
  split at h
  ·cases h
  ·rename_i hq
   obtain ⟨y, hy, hm⟩ := adj_true.1 h
   obtain ⟨j, hj, rfl⟩ := List.getElem_of_mem hy
   have hji : j ≠ i := by
    rintro rfl
    apply hq
    rcases hm with ⟨m1, m2⟩ | ⟨m1, m2⟩
    ·left; omega
    ·right; omega
   refine adj_true.2 ⟨_, ?_, hm⟩
   rcases Nat.lt_or_gt_of_ne hji with h1 | h1
   ·refine List.mem_append.2 (.inl (List.mem_iff_getElem.2 ⟨j, by rw [List.length_take]; omega, by rw [List.getElem_take]⟩))
   ·refine List.mem_append.2 (.inr (List.mem_iff_getElem.2 ⟨j - (i + 1), by rw [List.length_drop]; omega, ?_⟩))
    rw [List.getElem_drop]
    congr 1
    omega

/-- The better one of two lengths of rounds. -/
def nxt (best d : Int) : Int := if d > 0 then (if best = 0 then wrap64 (d + 1) else if wrap64 (d + 1) < best then wrap64 (d + 1) else best) else best
/-- How far the two of a pair are without it. -/
noncomputable def far (n : Nat) (l : List Pr) (i : Nat) : Int := rd (distL n (adj (less l i)) (rdP l (i : Int)).f0.toNat) (rdP l (i : Int)).f1
noncomputable def bestOf (n : Nat) (l : List Pr) : Nat → Nat → Int → Int
 | 0, _, b => b
 | d + 1, i, b => bestOf n l d (i + 1) (nxt b (far n l i))

theorem impl_loop {n : Nat} {l : List Pr} (hn : n ≤ 12) (hr : Right n l) (hs : ∀ i j, (hj : j < l.length) → (hij : i < j) → lessB l[i] l[j] = true) (h : l.length ≤ 1048576) : ∀ d i, l.length - i = d → i ≤ l.length → ∀ b : Int, Ev (fun k => impl_ShortestRound.l0 k b l (l.length : Int) (i : Int) (n : Int) l) (bestOf n l d i b, decide (bestOf n l d i b > 0)) := by
 intro d
 induction d with
 | zero =>
  intro i hd hi b
  exact Ev.step (f := fun _ => some (b, decide (b > 0))) (fun k => by simp only [impl_ShortestRound.l0]; rw [if_neg (by omega)]) (Ev.now _)
 | succ d ih =>
  intro i hd hi b
  have hil : i < l.length := by omega
  have r := hr _ (List.getElem_mem hil)
  have ea : ((l[i].f0.toNat : Nat) : Int) = l[i].f0 := by omega
  have eb : ((l[i].f1.toNat : Nat) : Int) = l[i].f1 := by omega
  have hlen : (less l i).length ≤ 9223372036854775807 := by
   unfold less
   rw [List.length_append, List.length_take, List.length_drop]
   omega
  obtain ⟨K1, h1⟩ := table_ev hn (less_right hr i) hlen
  obtain ⟨K2, h2⟩ := distI_evL hn (adj (less l i)) (a := l[i].f0.toNat) (by omega)
  obtain ⟨K3, h3⟩ := ih (i + 1) (by omega) (by omega) (nxt b (far n l i))
  have hdl := (distL_spec hn (adj (less l i)) (a := l[i].f0.toNat) (by omega)).1
  have hfar : far n l i = rd (distL n (adj (less l i)) l[i].f0.toNat) l[i].f1 := by unfold far rdP; rw [rdP_at hil]
  refine ⟨K1 + K2 + K3 + 1, fun k hk => ?_⟩
  obtain ⟨k, rfl⟩ : ∃ m, k = m + 1 := ⟨k - 1, by omega⟩
  have e1 := h1 k (by omega)
  dsimp only at e1
  have e2 := h2 k (by omega)
  have e3 := h3 k (by omega)
  dsimp only at e2 e3
  rw [ea] at e2
  have hc : impl_Pair_16.f l = some l := by
   unfold impl_Pair_16.f
   rw [if_pos (by omega)]
  have hdel : impl_Pair_15.f l (i : Int) ((i + 1 : Nat) : Int) = some (less l i) := by
   unfold impl_Pair_15.f
   rw [if_pos ⟨by omega, by omega, by omega⟩, Int.toNat_natCast]
   rfl
  show impl_ShortestRound.l0 (k + 1) b l (l.length : Int) (i : Int) (n : Int) l = some (bestOf n l d (i + 1) (nxt b (far n l i)), decide (bestOf n l d (i + 1) (nxt b (far n l i)) > 0))
  rw [← e3]
  simp only [impl_ShortestRound.l0]
  rw [if_pos (by omega), if_pos (by omega), if_pos (by omega), hc, Option.bind_some, succ_cast hil (by omega), hdel, Option.bind_some, e1, Option.bind_some, rdP_at hil, e2, Option.bind_some, if_pos (by omega), if_pos (by rw [hdl]; omega), hfar]
  unfold nxt
  by_cases c1 : rd (distL n (adj (less l i)) l[i].f0.toNat) l[i].f1 > 0
  ·rw [if_pos c1, if_pos c1]
   by_cases c2 : b = 0
   ·rw [if_pos c2, if_pos c2]
   ·rw [if_neg c2, if_neg c2]
    by_cases c3 : wrap64 (rd (distL n (adj (less l i)) l[i].f0.toNat) l[i].f1 + 1) < b
    ·rw [if_pos c3, if_pos c3]
    ·rw [if_neg c3, if_neg c3]
  ·rw [if_neg c1, if_neg c1]

theorem spec_loop {n : Nat} {l : List Pr} (hn : n ≤ 12) (hr : Right n l) (hs : ∀ i j, (hj : j < l.length) → (hij : i < j) → lessB l[i] l[j] = true) (h : l.length ≤ 1048576) : ∀ d i, l.length - i = d → i ≤ l.length → ∀ b : Int, Ev (fun k => spec_ShortestRound.l0 k b (tabB n (adj l)) l (l.length : Int) (i : Int)) (bestOf n l d i b, decide (bestOf n l d i b > 0)) := by
 intro d
 induction d with
 | zero =>
  intro i hd hi b
  exact Ev.step (f := fun _ => some (b, decide (b > 0))) (fun k => by simp only [spec_ShortestRound.l0]; rw [if_neg (by omega)]) (Ev.now _)
 | succ d ih =>
  intro i hd hi b
  have hil : i < l.length := by omega
  have r := hr _ (List.getElem_mem hil)
  have ea : ((l[i].f0.toNat : Nat) : Int) = l[i].f0 := by omega
  have eb : ((l[i].f1.toNat : Nat) : Int) = l[i].f1 := by omega
  obtain ⟨f1, hf1⟩ : ∃ g, g = setP (adj l) l[i].f0.toNat l[i].f1.toNat false := ⟨_, rfl⟩
  have hput1 := tabB_put (n := n) (adj l) (a := l[i].f0.toNat) (b := l[i].f1.toNat) (by omega) (by omega) (by omega) false
  have hput2 := tabB_put (n := n) f1 (a := l[i].f0.toNat) (b := l[i].f1.toNat) (by omega) (by omega) (by omega) true
  rw [← hf1] at hput1
  have hback : setP f1 l[i].f0.toNat l[i].f1.toNat true = adj l := by
   funext c d
   rw [hf1]
   unfold setP
   by_cases q : (c = l[i].f0.toNat ∧ d = l[i].f1.toNat) ∨ (c = l[i].f1.toNat ∧ d = l[i].f0.toNat)
   ·rw [if_pos q]
    symm
    refine adj_true.2 ⟨_, List.getElem_mem hil, ?_⟩
    rcases q with ⟨rfl, rfl⟩ | ⟨rfl, rfl⟩
    ·left; omega
    ·right; omega
   ·rw [if_neg q, if_neg q]
  rw [hback] at hput2
  have la : ∀ g : Nat → Nat → Bool, (rd_L4 (tabB n g) l[i].f0).length = n := fun g => by rw [← ea, tabB_get (by omega), rowB_length]
  have lb : ∀ (g : Nat → Nat → Bool) (v : Bool), (rd_L4 ((tabB n g).set l[i].f0.toNat ((rd_L4 (tabB n g) l[i].f0).set l[i].f1.toNat v)) l[i].f1).length = n := fun g v => by
   rw [← eb, rdB_at (by rw [List.length_set, tabB_length]; omega), List.getElem_set_ne (by omega), tabB_getElem, rowB_length]
  rw [ea, eb] at hput1 hput2
  have hT : ∀ g : Nat → Nat → Bool, (tabB n g).length = n := fun g => tabB_length _ _
  have hadj : adj (less l i) = f1 := by rw [hf1]; exact less_adj hr hs hil
  obtain ⟨K2, h2⟩ := distQ_evL hn f1 (a := l[i].f0.toNat) (by omega)
  obtain ⟨K3, h3⟩ := ih (i + 1) (by omega) (by omega) (nxt b (far n l i))
  have hdl := (distL_spec hn f1 (a := l[i].f0.toNat) (by omega)).1
  have hfar : far n l i = rd (distL n f1 l[i].f0.toNat) l[i].f1 := by unfold far rdP; rw [rdP_at hil, hadj]
  refine ⟨K2 + K3 + 1, fun k hk => ?_⟩
  obtain ⟨k, rfl⟩ : ∃ m, k = m + 1 := ⟨k - 1, by omega⟩
  have e2 := h2 k (by omega)
  have e3 := h3 k (by omega)
  dsimp only at e2 e3
  rw [ea] at e2
  show spec_ShortestRound.l0 (k + 1) b (tabB n (adj l)) l (l.length : Int) (i : Int) = some (bestOf n l d (i + 1) (nxt b (far n l i)), decide (bestOf n l d (i + 1) (nxt b (far n l i)) > 0))
  rw [← e3]
  simp only [spec_ShortestRound.l0]
  rw [if_pos (by omega), if_pos (by omega), if_pos (by omega), rdP_at hil, if_pos (by omega), if_pos (by rw [hT]; omega), if_pos (by omega), if_pos (by rw [la]; omega), Option.bind_some, if_pos (by rw [hT]; omega), if_pos (by rw [lb]; omega), Option.bind_some, hput1, e2, Option.bind_some, if_pos (by rw [hdl]; omega), hfar, succ_cast hil (by omega)]
  unfold nxt
  by_cases c1 : rd (distL n f1 l[i].f0.toNat) l[i].f1 > 0
  ·rw [if_pos c1, if_pos c1]
   by_cases c2 : b = 0
   ·rw [if_pos c2, if_pos c2, if_pos (by rw [la]; omega), Option.bind_some, if_pos (by rw [lb]; omega), hput2]
   ·rw [if_neg c2, if_neg c2]
    by_cases c3 : wrap64 (rd (distL n f1 l[i].f0.toNat) l[i].f1 + 1) < b
    ·rw [if_pos c3, if_pos c3, if_pos (by rw [la]; omega), Option.bind_some, if_pos (by rw [lb]; omega), hput2]
    ·rw [if_neg c3, if_neg c3, if_pos (by rw [la]; omega), Option.bind_some, if_pos (by rw [lb]; omega), hput2]
  ·rw [if_neg c1, if_neg c1, if_pos (by rw [la]; omega), Option.bind_some, if_pos (by rw [lb]; omega), hput2]

noncomputable def tell (n : Int) (l : List Pr) : Int × Bool := if party n l = true then (bestOf n.toNat l l.length 0 0, decide (bestOf n.toNat l l.length 0 0 > 0)) else (0, false)
theorem impl_ev (n : Int) (l : List Pr) (h : l.length ≤ 1048576) : Ev (fun k => impl_ShortestRound.f k n l) (tell n l) := by
 unfold impl_ShortestRound.f tell
 refine Ev.bind (isParty_ev n l (by omega)) ?_
 refine ev_if (fun b => ?_) (fun b => by rw [if_neg b]; exact Ev.now _)
 obtain ⟨m, rfl, hm, hr, hs⟩ := party_right b
 rw [if_pos b, Int.toNat_natCast]
 exact impl_loop hm hr hs h l.length 0 (by omega) (by omega) 0
theorem spec_ev (n : Int) (l : List Pr) (h : l.length ≤ 1048576) : Ev (fun k => spec_ShortestRound.f k n l) (tell n l) := by
 unfold spec_ShortestRound.f tell
 refine Ev.bind (paGood_ev n l (by omega)) ?_
 refine ev_if (fun b => ?_) (fun b => by rw [if_neg b]; exact Ev.now _)
 obtain ⟨m, rfl, hm, hr, hs⟩ := party_right b
 rw [if_pos b, Int.toNat_natCast]
 refine Ev.bind (paTable_ev hm hr (by omega)) ?_
 exact spec_loop hm hr hs h l.length 0 (by omega) (by omega) 0

theorem FnExactShortestRound : laws_FnExactShortestRound.Pure := by
 intro n l _ hl _
 refine Ev.rounds (g := fun k => laws_FnExactShortestRound.f k n l) ?_
 unfold laws_FnExactShortestRound.f
 refine ev_bind0 (szParty_eq n l 1048576 (by omega) (by omega) hl) ?_
 refine ev_if (fun _ => Ev.now _) (fun hb => ?_)
 have hs : l.length ≤ 1048576 := by
  by_cases h : (1048576 : Int) < (l.length : Int)
  ·rw [if_pos h] at hb; omega
  ·omega
 have hTl := toParty_ev n l (by omega)
 have hl2 : (l.map toP).length ≤ 1048576 := by rw [List.length_map]; exact hs
 have hS := spec_ev n (l.map toP) (by omega)
 have hI := impl_ev n (l.map toP) (by omega)
 generalize tell n (l.map toP) = z at hS hI
 obtain ⟨c, ok1⟩ := z
 refine Ev.bind hTl ?_
 refine Ev.bind hS ?_
 refine Ev.bind hTl ?_
 refine Ev.bind hI ?_
 refine ev_if (fun _ => ?_) (fun h => absurd rfl h)
 show Ev (fun k => laws_FnExactShortestRound.j0 k (ok1 != ok1) n l n (l.map toP)) true
 rw [show (ok1 != ok1) = false by simp]
 refine Ev.step (f := fun k => (laws_toParty.f k n l).bind fun bt => (laws_eqParty.f k n (l.map toP) bt.1 bt.2).bind fun t => if t = true then some true else some false) (fun k => ?_) ?_
 ·simp only [laws_FnExactShortestRound.j0]
  rfl
 ·refine Ev.bind hTl ?_
  refine Ev.bind (eqParty_ev n (l.map toP) (by simp only [List.length_map]; omega)) ?_
  exact ev_if (fun _ => Ev.now _) (fun c => absurd rfl c)
end Go.Proofs.YtbamgkgcoedliaaDoor.Pure
