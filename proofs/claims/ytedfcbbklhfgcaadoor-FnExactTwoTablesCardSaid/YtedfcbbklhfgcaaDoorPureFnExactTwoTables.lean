import Derived.Test.YtedfcbbklhfgcaaDoorQ0
import Derived.Test.YtedfcbbklhfgcaaDoorQ2
import Derived.Test.YtedfcbbklhfgcaaDoorQ3
import Derived.Test.YtedfcbbklhfgcaaDoorQ6
import Derived.Test.YtedfcbbklhfgcaaDoorQ8
import Derived.Test.YtedfcbbklhfgcaaDoorQ10
import Derived.Test.YtedfcbbklhfgcaaDoorQ14
import Derived.Test.YtedfcbbklhfgcaaDoorQ19
import Derived.Test.YtedfcbbklhfgcaaDoorQ21
import Derived.Test.YtedfcbbklhfgcaaDoorQ24
import Derived.Test.YtedfcbbklhfgcaaDoorQ30
import Derived.Test.YtedfcbbklhfgcaaDoorQ31
import Derived.Test.YtedfcbbklhfgcaaDoorQ35
import Derived.Test.YtedfcbbklhfgcaaDoorQ53
import Derived.Test.YtedfcbbklhfgcaaDoorQ54
import Derived.Test.YtedfcbbklhfgcaaDoorQ57
import Derived.Test.YtedfcbbklhfgcaaDoorQ59
import Derived.Test.YtedfcbbklhfgcaaDoorQ61
import Derived.Test.YtedfcbbklhfgcaaDoorQ62
import Derived.Test.YtedfcbbklhfgcaaDoorQ63
import Derived.Test.YtedfcbbklhfgcaaDoorQ70
import Derived.Test.YtedfcbbklhfgcaaDoorSayFnExactTwoTables
/- Plain lemmas over rounds, lists and whole numbers, for the pure statements of this seat. No condition. -/
namespace Go.Proofs.YtedfcbbklhfgcaaDoor.Plain
open Go.RowKit Go.Proofs.YtedfcbbklhfgcaaDoorW.PrintWords Go.Proofs.YtedfcbbklhfgcaaDoorW.PrintLast
set_option linter.unusedVariables false

theorem wrap_id {x : Int} (h0 : -9223372036854775808 ≤ x) (h1 : x ≤ 9223372036854775807) : wrap64 x = x := by
 unfold wrap64
 omega

theorem rd_at {l : List Int} {i : Nat} (h : i < l.length) : rd l (i : Int) = l[i] := by
 simp [rd, List.getD, h]

theorem ev_some {α : Type} {g : Nat → Option α} {r : α} (h : ∀ k, g k = some r) : Ev g r := ⟨0, fun k _ => h k⟩

theorem ev_bind0 {α β : Type} {g : Option α} {f : Nat → α → Option β} {a : α} {r : β} (h : g = some a) (k : Ev (fun n => f n a) r) : Ev (fun n => g.bind (f n)) r := by
 obtain ⟨K, hK⟩ := k
 refine ⟨K, fun n hn => ?_⟩
 show g.bind (f n) = some r
 rw [h]
 exact hK n hn

theorem ev_if {α : Type} {c : Prop} [Decidable c] {f g : Nat → Option α} {r : α} (hf : c → Ev f r) (hg : ¬ c → Ev g r) : Ev (fun n => if c then f n else g n) r := by
 by_cases h : c
 ·obtain ⟨K, hK⟩ := hf h
  exact ⟨K, fun n hn => (if_pos h).trans (hK n hn)⟩
 ·obtain ⟨K, hK⟩ := hg h
  exact ⟨K, fun n hn => (if_neg h).trans (hK n hn)⟩

/-- A loop over an index, from any index on, in one shape. -/
theorem ev_up {α : Type} {n : Nat} {loop : Nat → Nat → Option α} {r : Nat → α} (hend : Ev (fun k => loop k n) (r n)) (hstep : ∀ i, i < n → (Ev (fun k => loop k (i + 1)) (r (i + 1)) → Ev (fun k => loop k i) (r i))) :
  ∀ i, i ≤ n → Ev (fun k => loop k i) (r i) := by
 intro i hi
 have : ∀ d i, i ≤ n → n - i = d → Ev (fun k => loop k i) (r i) := by
  intro d
  induction d with
  | zero =>
   intro i hi hd
   have e : i = n := by omega
   rw [e]; exact hend
  | succ d ih =>
   intro i hi hd
   exact hstep i (by omega) (ih (i + 1) (by omega) (by omega))
 exact this (n - i) i hi rfl
theorem all_step (f : Nat → Bool) {m i : Nat} (h : i < m) : ((List.range m).drop i).all f = (f i && ((List.range m).drop (i + 1)).all f) := by
 rw [List.drop_eq_getElem_cons (by simpa using h), List.all_cons, List.getElem_range]
theorem all_end (f : Nat → Bool) {m i : Nat} (h : m ≤ i) : ((List.range m).drop i).all f = true := by
 rw [List.drop_of_length_le (by simpa using h)]; rfl
theorem succ_cast {i n : Nat} (h : i < n) (hn : n ≤ 9223372036854775807) : wrap64 ((i : Int) + 1) = ((i + 1 : Nat) : Int) := by
 rw [wrap_id (by omega) (by omega)]; rfl
theorem pred_cast {i : Nat} (h : 1 ≤ i) (hn : i ≤ 9223372036854775807) : wrap64 ((i : Int) - 1) = ((i - 1 : Nat) : Int) := by
 rw [wrap_id (by omega) (by omega)]; omega
end Go.Proofs.YtedfcbbklhfgcaaDoor.Plain

/- The law's own functions over lists of whole numbers: copies, equality, bounds. No condition but lengths that fit. -/
namespace Go.Proofs.YtedfcbbklhfgcaaDoor.Plain
open Go.RowKit Go.Proofs.YtedfcbbklhfgcaaDoorW.PrintWords Go.Proofs.YtedfcbbklhfgcaaDoorW.PrintLast
set_option linter.unusedVariables false
open Q

theorem copy_step (l : List Int) (i : Nat) (h : i < l.length) :
  (l.take i ++ List.replicate (l.length - i) (0 : Int)).set ((i : Int)).toNat (rd l (i : Int)) = l.take (i + 1) ++ List.replicate (l.length - (i + 1)) (0 : Int) := by
 have e : l.length - i = (l.length - (i + 1)) + 1 := by omega
 have hl : (l.take i).length = i := by simp; omega
 rw [Int.toNat_natCast, rd_at h, e, List.replicate_succ, List.set_append_right _ _ (by omega), hl, Nat.sub_self, List.set_cons_zero, List.take_succ_eq_append_getElem h, List.append_assoc]
 rfl

theorem eqIntS_ev (l : List Int) (h : l.length ≤ 9223372036854775807) : Ev (fun k => laws_eqIntS.f k l l) true := by
 refine Ev.congr (f := fun k => laws_eqIntS.l0 k l l 0) (fun k => ?_) ?_
 ·unfold laws_eqIntS.f
  rw [if_pos rfl]
 ·exact ev_up (n := l.length) (loop := fun k i => laws_eqIntS.l0 k l l (i : Int)) (r := fun _ => true)
   (Ev.step (f := fun _ => some true) (fun k => by simp [laws_eqIntS.l0]) (Ev.now true))
   (fun i hi ih => Ev.step (f := fun k => laws_eqIntS.l0 k l l ((i + 1 : Nat) : Int)) (fun k => by
    simp only [laws_eqIntS.l0]
    rw [if_pos (by omega), if_pos (by omega), if_pos (by omega), if_pos trivial, succ_cast hi h]) ih) 0 (Nat.zero_le _)

theorem l1In_eq (a b c : Int) : spec_l1In.f a b c = some (decide (b ≤ a) && decide (a ≤ c)) := by
 unfold spec_l1In.f
 by_cases h : b ≤ a <;> simp [h]

theorem within_eq (a b c : Int) : impl_within.f a b c = some (decide (b ≤ a) && decide (a ≤ c)) := by
 unfold impl_within.f
 by_cases h : b ≤ a <;> simp [h]

end Go.Proofs.YtedfcbbklhfgcaaDoor.Plain

/- Parties: both sides' tests, and the law's own functions over parties. No condition but lengths that fit. -/
namespace Go.Proofs.YtedfcbbklhfgcaaDoor.Plain
open Go.RowKit Go.Proofs.YtedfcbbklhfgcaaDoorW.PrintWords Go.Proofs.YtedfcbbklhfgcaaDoorW.PrintLast
set_option linter.unusedVariables false
open Q

abbrev Pr := S56
abbrev rdP (l : List Pr) (i : Int) : Pr := rd_T56 l i

theorem rdP_at {l : List Pr} {i : Nat} (h : i < l.length) : rd_T56 l (i : Int) = l[i] := by
 simp [rd_T56, List.getD, h]

def pairOk (n : Int) (x : Pr) : Bool := decide (0 ≤ x.f0) && (decide (x.f0 < x.f1) && decide (x.f1 < n))
def lessB (x y : Pr) : Bool := decide (x.f0 < y.f0) || (decide (x.f0 = y.f0) && decide (x.f1 < y.f1))
/-- The pair at an index is right, and comes behind the one before. -/
def okAt (n : Int) (l : List Pr) (i : Nat) : Bool := pairOk n (rdP l i) && (decide (i = 0) || lessB (rdP l ((i : Int) - 1)) (rdP l i))
def party (n : Int) (l : List Pr) : Bool := (decide (0 ≤ n) && decide (n ≤ 12)) && (List.range l.length).all (okAt n l)

theorem paLess_eq (x y : Pr) : spec_paLess.f x.f0 x.f1 y.f0 y.f1 = some (lessB x y) := by
 unfold spec_paLess.f lessB
 by_cases h : x.f0 < y.f0
 ·rw [if_pos h, decide_eq_true h]; rfl
 ·rw [if_neg h, decide_eq_false h]
  by_cases h2 : x.f0 = y.f0
  ·rw [if_pos h2, decide_eq_true h2]; simp
  ·rw [if_neg h2, decide_eq_false h2]; simp

/-- Compared as the library compares whole numbers. -/
def cmpI (a b : Int) : Int := if a < b then -1 else if a > b then 1 else 0
theorem compare_eq (a b : Int) : cmp_Compare_int.f a b = some (cmpI a b) := by
 unfold cmp_Compare_int.f cmp_isNaN_int.f cmpI
 simp
 by_cases h : a < b
 ·simp [h]
 ·by_cases h2 : b < a <;> simp [h, h2]

theorem or_two (a b : Int) : Ev (fun k => cmp_Or_int.f k [a, b]) (if a = 0 then b else a) := by
 refine Ev.of (fun k => cmp_Or_int.mono [a, b] k) (k := 3) ?_
 by_cases h : a = 0
 ·by_cases h2 : b = 0
  ·simp [cmp_Or_int.f, cmp_Or_int.l0, rd, h, h2, wrap64]
  ·simp [cmp_Or_int.f, cmp_Or_int.l0, rd, h, h2, wrap64]
 ·simp [cmp_Or_int.f, cmp_Or_int.l0, rd, h]

theorem comparePairs_ev (x y : Pr) : Ev (fun k => impl_comparePairs.f k x.f0 x.f1 y.f0 y.f1) (if cmpI x.f0 y.f0 = 0 then cmpI x.f1 y.f1 else cmpI x.f0 y.f0) := by
 unfold impl_comparePairs.f
 refine ev_bind0 (compare_eq _ _) ?_
 refine ev_bind0 (compare_eq _ _) ?_
 exact Ev.bind (f := fun _ t => some t) (or_two _ _) (Ev.now _)

theorem compare_less (x y : Pr) : ((if cmpI x.f0 y.f0 = 0 then cmpI x.f1 y.f1 else cmpI x.f0 y.f0) ≥ 0) ↔ lessB x y = false := by
 unfold cmpI lessB
 by_cases h1 : x.f0 < y.f0
 ·simp [h1]
 ·by_cases h2 : y.f0 < x.f0
  ·have : ¬ x.f0 = y.f0 := by omega
   simp [h1, h2, this]
  ·have e : x.f0 = y.f0 := by omega
   by_cases h3 : x.f1 < y.f1
   ·simp [e, h3]
   ·by_cases h4 : y.f1 < x.f1 <;> simp [e, h3, h4]

theorem areCrowd_eq (n : Int) : impl_areCrowd.f n = some (decide (0 ≤ n) && decide (n ≤ 12)) := by
 unfold impl_areCrowd.f
 rw [within_eq]; rfl

theorem isParty_ev (n : Int) (l : List Pr) (h : l.length ≤ 9223372036854775807) : Ev (fun k => impl_IsParty.f k n l) (party n l) := by
 have q := ev_up (n := l.length) (loop := fun k i => impl_IsParty.l0 k l (l.length : Int) (i : Int) n l) (r := fun i => (decide (0 ≤ n) && decide (n ≤ 12)) && ((List.range l.length).drop i).all (okAt n l))
  (Ev.step (f := fun _ => some (decide (0 ≤ n) && decide (n ≤ 12))) (fun k => by
    simp only [impl_IsParty.l0]
    rw [if_neg (by omega), areCrowd_eq]; rfl) (by rw [all_end _ (Nat.le_refl _), Bool.and_true]; exact Ev.now _))
  (fun i hi ih => by
   rw [all_step (okAt n l) hi]
   have e0 : okAt n l i = (pairOk n l[i] && (decide (i = 0) || lessB (rdP l ((i : Int) - 1)) l[i])) := by
    unfold okAt rdP; rw [rdP_at hi]
   by_cases a1 : l[i].f0 < 0
   ·have e : okAt n l i = false := by rw [e0]; simp [pairOk]; omega
    rw [e]
    refine Ev.step (f := fun _ => some false) (fun k => ?_) (by simpa using Ev.now false)
    simp only [impl_IsParty.l0]
    rw [if_pos (by omega), if_pos (by omega), if_pos (by omega), rdP_at hi, if_pos a1]
   by_cases a2 : l[i].f0 ≥ l[i].f1
   ·have e : okAt n l i = false := by rw [e0]; simp [pairOk]; omega
    rw [e]
    refine Ev.step (f := fun _ => some false) (fun k => ?_) (by simpa using Ev.now false)
    simp only [impl_IsParty.l0]
    rw [if_pos (by omega), if_pos (by omega), if_pos (by omega), rdP_at hi, if_neg a1, if_pos a2]
   by_cases a3 : l[i].f1 ≥ n
   ·have e : okAt n l i = false := by rw [e0]; simp [pairOk]; omega
    rw [e]
    refine Ev.step (f := fun _ => some false) (fun k => ?_) (by simpa using Ev.now false)
    simp only [impl_IsParty.l0]
    rw [if_pos (by omega), if_pos (by omega), if_pos (by omega), rdP_at hi, if_neg a1, if_neg a2, if_pos a3]
   have ep : pairOk n l[i] = true := by simp [pairOk]; omega
   by_cases a4 : i = 0
   ·have e : okAt n l i = true := by rw [e0, ep, decide_eq_true a4]; simp
    rw [e]
    refine Ev.step (f := fun k => impl_IsParty.l0 k l (l.length : Int) ((i + 1 : Nat) : Int) n l) (fun k => ?_) (by simpa using ih)
    simp only [impl_IsParty.l0]
    rw [if_pos (by omega), if_pos (by omega), if_pos (by omega), rdP_at hi, if_neg a1, if_neg a2, if_neg a3, if_neg (by omega), succ_cast hi h]
   ·have ew : wrap64 ((i : Int) - 1) = ((i - 1 : Nat) : Int) := by rw [wrap_id (by omega) (by omega)]; omega
    have ew2 : ((i : Int) - 1) = ((i - 1 : Nat) : Int) := by omega
    have e : okAt n l i = lessB l[i-1] l[i] := by
     rw [e0, ep, decide_eq_false a4, ew2]
     unfold rdP
     rw [rdP_at (by omega)]; simp
    rw [e]
    refine Ev.step (f := fun k => (impl_comparePairs.f k l[i-1].f0 l[i-1].f1 l[i].f0 l[i].f1).bind fun t => if t ≥ 0 then some false else impl_IsParty.l0 k l (l.length : Int) ((i + 1 : Nat) : Int) n l) (fun k => ?_) ?_
    ·simp only [impl_IsParty.l0]
     rw [if_pos (by omega), if_pos (by omega), if_pos (by omega), rdP_at hi, if_neg a1, if_neg a2, if_neg a3, if_pos (by omega), if_pos (by omega), if_pos (by omega), ew, rdP_at (by omega : i - 1 < l.length), succ_cast hi h]
    ·refine Ev.bind (comparePairs_ev _ _) ?_
     refine ev_if (fun b => ?_) (fun b => ?_)
     ·rw [(compare_less _ _).mp b]; simpa using Ev.now false
     ·have : lessB l[i-1] l[i] = true := by
       cases hb : lessB l[i-1] l[i] with
       | true => rfl
       | false => exact absurd ((compare_less _ _).mpr hb) b
      rw [this]; simpa using ih) 0 (Nat.zero_le _)
 simpa [impl_IsParty.f, party] using q

/-! What a party is, in words of numbers. -/
theorem party_of {n : Int} {l : List Pr} (h : party n l = true) : 0 ≤ n ∧ n ≤ 12 ∧ (∀ i, (hi : i < l.length) → 0 ≤ l[i].f0 ∧ l[i].f0 < l[i].f1 ∧ l[i].f1 < n) ∧ (∀ i, (hi : i + 1 < l.length) → lessB l[i] l[i+1] = true) := by
 unfold party at h
 simp only [Bool.and_eq_true, decide_eq_true_eq, List.all_eq_true, List.mem_range] at h
 obtain ⟨⟨h1, h2⟩, h3⟩ := h
 refine ⟨h1, h2, fun i hi => ?_, fun i hi => ?_⟩
 ·have q := h3 i hi
  unfold okAt rdP at q
  rw [rdP_at hi] at q
  simp only [Bool.and_eq_true, pairOk, decide_eq_true_eq] at q
  exact q.1
 ·have q := h3 (i + 1) hi
  unfold okAt rdP at q
  rw [show (((i + 1 : Nat) : Int) - 1) = ((i : Nat) : Int) by omega, rdP_at hi, rdP_at (by omega : i < l.length)] at q
  simpa using (Bool.and_eq_true _ _ ▸ q).2
end Go.Proofs.YtedfcbbklhfgcaaDoor.Plain

/- A party as a relation between people; sets of people as numbers; how many hold. Plain lemmas. No condition. -/
namespace Go.Proofs.YtedfcbbklhfgcaaDoor.Plain
open Go.RowKit Go.Proofs.YtedfcbbklhfgcaaDoorW.PrintWords Go.Proofs.YtedfcbbklhfgcaaDoorW.PrintLast
set_option linter.unusedVariables false
open Q

/-- Are two people friends. -/
def adj (l : List Pr) (a b : Nat) : Bool := l.any fun x => (decide (x.f0 = (a : Int)) && decide (x.f1 = (b : Int))) || (decide (x.f0 = (b : Int)) && decide (x.f1 = (a : Int)))

theorem adj_comm (l : List Pr) (a b : Nat) : adj l a b = adj l b a := by
 unfold adj
 congr 1
 funext x
 rw [Bool.or_comm]
theorem adj_nil (a b : Nat) : adj [] a b = false := rfl
theorem adj_snoc (l : List Pr) (x : Pr) (a b : Nat) : adj (l ++ [x]) a b = (adj l a b || ((decide (x.f0 = (a : Int)) && decide (x.f1 = (b : Int))) || (decide (x.f0 = (b : Int)) && decide (x.f1 = (a : Int))))) := by
 unfold adj
 rw [List.any_append]
 simp
theorem adj_true {l : List Pr} {a b : Nat} : adj l a b = true ↔ ∃ x ∈ l, (x.f0 = (a : Int) ∧ x.f1 = (b : Int)) ∨ (x.f0 = (b : Int) ∧ x.f1 = (a : Int)) := by
 unfold adj
 rw [List.any_eq_true]
 constructor
 ·rintro ⟨x, hx, h⟩
  exact ⟨x, hx, by simpa using h⟩
 ·rintro ⟨x, hx, h⟩
  exact ⟨x, hx, by simpa using h⟩

/-- All pairs are right for n people. -/
def Right (n : Nat) (l : List Pr) : Prop := ∀ x ∈ l, 0 ≤ x.f0 ∧ x.f0 < x.f1 ∧ x.f1 < (n : Int)
theorem Right.take {n : Nat} {l : List Pr} (h : Right n l) (i : Nat) : Right n (l.take i) := fun x hx => h x (List.mem_of_mem_take hx)

theorem lessB_trans {x y z : Pr} (h1 : lessB x y = true) (h2 : lessB y z = true) : lessB x z = true := by
 unfold lessB at *
 simp only [Bool.or_eq_true, Bool.and_eq_true, decide_eq_true_eq] at *
 omega
theorem sorted_lt {l : List Pr} (h : ∀ i, (hi : i + 1 < l.length) → lessB l[i] l[i+1] = true) : ∀ d i, (hi : i + 1 + d < l.length) → lessB l[i] l[i + 1 + d] = true := by
 intro d
 induction d with
 | zero => intro i hi; exact h i hi
 | succ d ih =>
  intro i hi
  have q := ih i (by omega)
  have q2 := h (i + 1 + d) (by omega)
  exact lessB_trans q q2

/-- What a right party tells: people from 0 to 12, right pairs, in order. -/
theorem party_right {n : Int} {l : List Pr} (h : party n l = true) : ∃ m : Nat, n = (m : Int) ∧ m ≤ 12 ∧ Right m l ∧ (∀ i j, (hj : j < l.length) → (hij : i < j) → lessB l[i] l[j] = true) := by
 obtain ⟨h1, h2, h3, h4⟩ := party_of h
 refine ⟨n.toNat, by omega, by omega, fun x hx => ?_, fun i j hj hij => ?_⟩
 ·obtain ⟨i, hi, rfl⟩ := List.getElem_of_mem hx
  have := h3 i hi
  omega
 ·have := sorted_lt h4 (j - i - 1) i (by omega)
  have e : i + 1 + (j - i - 1) = j := by omega
  simpa only [e] using this

/-! Sets of people as numbers. -/
def maskOf (f : Nat → Bool) : Nat → Nat
 | 0 => 0
 | n + 1 => maskOf f n + (if f n = true then 2 ^ n else 0)

theorem maskOf_lt (f : Nat → Bool) : ∀ n, maskOf f n < 2 ^ n
 | 0 => by simp [maskOf]
 | n + 1 => by
  have := maskOf_lt f n
  unfold maskOf
  rw [Nat.pow_succ]
  split <;> omega

theorem maskOf_bit (f : Nat → Bool) : ∀ n b, (maskOf f n).testBit b = (decide (b < n) && f b)
 | 0, b => by simp [maskOf]
 | n + 1, b => by
  have ih := maskOf_bit f n b
  have hlt := maskOf_lt f n
  unfold maskOf
  by_cases h : f n = true
  ·rw [if_pos h, Nat.add_comm]
   rcases Nat.lt_trichotomy b n with hb | rfl | hb
   ·rw [Nat.testBit_two_pow_add_gt hb, ih]
    simp [hb, Nat.lt_succ_of_lt hb]
   ·rw [Nat.testBit_two_pow_add_eq, Nat.testBit_lt_two_pow hlt]
    simp [h]
   ·have h1 : 2 ^ (n + 1) ≤ 2 ^ b := Nat.pow_le_pow_right (by omega) (by omega)
    rw [Nat.pow_succ] at h1
    rw [Nat.testBit_lt_two_pow (by omega)]
    simp; omega
  ·rw [if_neg h, Nat.add_zero, ih]
   by_cases e : b = n
   ·subst e
    simp [Bool.eq_false_iff.mpr h]
   ·have : decide (b < n + 1) = decide (b < n) := by
     apply decide_eq_decide.mpr; omega
    rw [this]

theorem maskOf_congr {f g : Nat → Bool} : ∀ {n}, (∀ b, b < n → f b = g b) → maskOf f n = maskOf g n
 | 0, _ => rfl
 | n + 1, h => by
  unfold maskOf
  rw [maskOf_congr (n := n) (fun b hb => h b (by omega)), h n (by omega)]

theorem mask_or (f g : Nat → Bool) (n : Nat) : maskOf f n ||| maskOf g n = maskOf (fun b => f b || g b) n := by
 apply Nat.eq_of_testBit_eq
 intro b
 rw [Nat.testBit_or, maskOf_bit, maskOf_bit, maskOf_bit]
 cases decide (b < n) <;> simp
theorem mask_one {n b : Nat} (h : b < n) : (2 ^ b : Nat) = maskOf (fun c => decide (c = b)) n := by
 apply Nat.eq_of_testBit_eq
 intro c
 rw [Nat.testBit_two_pow, maskOf_bit]
 by_cases e : b = c
 ·subst e; simp [h]
 ·have : ¬ (c = b) := fun q => e q.symm
  simp [e, this]

/-! How many hold. -/
def cnt (f : Nat → Bool) (n : Nat) : Nat := (List.range n).countP f
theorem cnt_succ (f : Nat → Bool) (n : Nat) : cnt f (n + 1) = cnt f n + (if f n = true then 1 else 0) := by
 unfold cnt
 rw [List.range_succ, List.countP_append]
 simp [List.countP_cons]
theorem cnt_le (f : Nat → Bool) (n : Nat) : cnt f n ≤ n := by
 unfold cnt
 have := List.countP_le_length (p := f) (l := List.range n)
 simpa using this
theorem cnt_congr {f g : Nat → Bool} {n : Nat} (h : ∀ b, b < n → f b = g b) : cnt f n = cnt g n := by
 unfold cnt
 apply List.countP_congr
 intro x hx
 rw [h x (by simpa using hx)]
theorem cnt_one {f : Nat → Bool} {g : Nat → Bool} {a : Nat} : ∀ {n}, a < n → f a = false → (∀ b, b < n → g b = (f b || decide (b = a))) → cnt g n = cnt f n + 1
 | 0, h, _, _ => by omega
 | n + 1, h, hf, hg => by
  rw [cnt_succ, cnt_succ]
  by_cases e : a = n
  ·subst e
   have h1 : cnt g a = cnt f a := cnt_congr (fun b hb => by rw [hg b (by omega)]; simp [show ¬ b = a by omega])
   have h2 := hg a (by omega)
   rw [h1, h2, hf]
   simp
  ·have h1 := cnt_one (f := f) (g := g) (n := n) (by omega) hf (fun b hb => hg b (by omega))
   have h2 := hg n (by omega)
   rw [h1, h2]
   have : decide (n = a) = false := by simp; omega
   rw [this, Bool.or_false]
   omega
end Go.Proofs.YtedfcbbklhfgcaaDoor.Plain

/- The program's table of a party: for each person its friends, as the bits of a number. No condition but lengths that fit. -/
namespace Go.Proofs.YtedfcbbklhfgcaaDoor.Plain
open Go.RowKit Go.Proofs.YtedfcbbklhfgcaaDoorW.PrintWords Go.Proofs.YtedfcbbklhfgcaaDoorW.PrintLast
set_option linter.unusedVariables false
open Q

theorem wraps_u16 (n : Int) (h₀ : 0 ≤ n) (h₁ : n < 2 ^ 16) : IntKind.u16.wrap n = n := by
 have : IntKind.u16.wrap n = n % 65536 := by simp [IntKind.wrap, IntKind.bits, IntKind.signed]
 rw [this]; omega
theorem or16 {a b : Nat} (ha : a < 2 ^ 16) (hb : b < 2 ^ 16) : Go.bits .or .u16 (a : Int) (b : Int) = ((a ||| b : Nat) : Int) := (bits_nat .u16 16 (by decide) wraps_u16 a b ha hb).2
theorem and16 {a b : Nat} (ha : a < 2 ^ 16) (hb : b < 2 ^ 16) : Go.bits .and .u16 (a : Int) (b : Int) = ((a &&& b : Nat) : Int) := (bits_nat .u16 16 (by decide) wraps_u16 a b ha hb).1
theorem shl16 {b : Nat} (hb : b < 16) : shl .u16 1 (b : Int) = ((2 ^ b : Nat) : Int) := by
 unfold shl
 have h1 : min ((b : Int)).toNat IntKind.u16.bits = b := by
  rw [Int.toNat_natCast]
  exact Nat.min_eq_left (by show b ≤ 16; omega)
 rw [h1, Int.one_mul, wraps_u16]
 ·simp
 ·exact Int.pow_nonneg (by decide)
 ·have : (2 : Nat) ^ b < 2 ^ 16 := Nat.pow_lt_pow_right (by omega) hb
  exact_mod_cast this

/-- The table of a relation of n people. -/
def tabF (n : Nat) (f : Nat → Nat → Bool) : List Int := (List.range n).map fun a => ((maskOf (f a) n : Nat) : Int)
theorem tabF_length (n : Nat) (f : Nat → Nat → Bool) : (tabF n f).length = n := by simp [tabF]
theorem tabF_get {n : Nat} {f : Nat → Nat → Bool} {a : Nat} (h : a < n) : rd (tabF n f) (a : Int) = ((maskOf (f a) n : Nat) : Int) := by
 rw [rd_at (by rw [tabF_length]; exact h)]
 simp [tabF]
theorem tabF_congr {n : Nat} {f g : Nat → Nat → Bool} (h : ∀ a b, a < n → b < n → f a b = g a b) : tabF n f = tabF n g := by
 unfold tabF
 apply List.map_congr_left
 intro a ha
 rw [maskOf_congr (fun b hb => h a b (by simpa using ha) hb)]
theorem mask16 {f : Nat → Bool} {n : Nat} (h : n ≤ 16) : maskOf f n < 2 ^ 16 := Nat.lt_of_lt_of_le (maskOf_lt f n) (Nat.pow_le_pow_right (by omega) h)

/-- The relation with two people made friends. -/
def withP (f : Nat → Nat → Bool) (a b : Nat) : Nat → Nat → Bool := fun c d => f c d || ((decide (c = a) && decide (d = b)) || (decide (c = b) && decide (d = a)))

/-- One pair put into the table, as both the loop and 'put' do it. -/
theorem tab_put {n : Nat} (hn : n ≤ 16) (f : Nat → Nat → Bool) {a b : Nat} (ha : a < n) (hb : b < n) (hab : a ≠ b) :
  ((tabF n f).set a (Go.bits .or .u16 (rd (tabF n f) (a : Int)) (shl .u16 1 (b : Int)))).set b
   (Go.bits .or .u16 (rd ((tabF n f).set a (Go.bits .or .u16 (rd (tabF n f) (a : Int)) (shl .u16 1 (b : Int)))) (b : Int)) (shl .u16 1 (a : Int))) = tabF n (withP f a b) := by
 have e1 : Go.bits .or .u16 (rd (tabF n f) (a : Int)) (shl .u16 1 (b : Int)) = ((maskOf (withP f a b a) n : Nat) : Int) := by
  rw [tabF_get ha, shl16 (by omega), or16 (mask16 hn) (Nat.pow_lt_pow_right (by omega) (by omega)), mask_one hb, mask_or]
  congr 1
  apply maskOf_congr
  intro c _
  unfold withP
  simp [hab]
 have e2 : rd ((tabF n f).set a (Go.bits .or .u16 (rd (tabF n f) (a : Int)) (shl .u16 1 (b : Int)))) (b : Int) = ((maskOf (f b) n : Nat) : Int) := by
  rw [rd_at (by rw [List.length_set, tabF_length]; exact hb), List.getElem_set_ne hab]
  simp [tabF]
 have e3 : Go.bits .or .u16 ((maskOf (f b) n : Nat) : Int) (shl .u16 1 (a : Int)) = ((maskOf (withP f a b b) n : Nat) : Int) := by
  rw [shl16 (by omega), or16 (mask16 hn) (Nat.pow_lt_pow_right (by omega) (by omega)), mask_one ha, mask_or]
  congr 1
  apply maskOf_congr
  intro c _
  unfold withP
  simp [show ¬ (b = a) from fun q => hab q.symm]
 rw [e2, e3, e1]
 apply List.ext_getElem
 ·simp [tabF_length]
 ·intro i h1 h2
  rw [tabF_length] at h2
  rw [List.getElem_set, List.getElem_set]
  by_cases i1 : b = i
  ·subst i1
   rw [if_pos rfl]
   simp [tabF]
  ·rw [if_neg i1]
   by_cases i2 : a = i
   ·subst i2
    rw [if_pos rfl]
    simp [tabF]
   ·rw [if_neg i2]
    simp only [tabF, List.getElem_map, List.getElem_range]
    congr 1
    apply maskOf_congr
    intro c _
    unfold withP
    simp [show ¬ (i = a) from fun q => i2 q.symm, show ¬ (i = b) from fun q => i1 q.symm]

theorem table_ev {n : Nat} {l : List Pr} (hn : n ≤ 12) (hr : Right n l) (h : l.length ≤ 9223372036854775807) : Ev (fun k => impl_Party_table.f k (n : Int) l) (tabF n (adj l)) := by
 refine Ev.congr (f := fun k => impl_Party_table.l0 k (List.replicate n 0) l (l.length : Int) 0) (fun k => ?_) ?_
 ·unfold impl_Party_table.f
  rw [if_pos (by omega), if_pos (by omega), Int.toNat_natCast]
 ·have q := ev_up (n := l.length) (loop := fun k i => impl_Party_table.l0 k (tabF n (adj (l.take i))) l (l.length : Int) (i : Int)) (r := fun _ => tabF n (adj l))
   (Ev.step (f := fun _ => some (tabF n (adj l))) (fun k => by simp [impl_Party_table.l0]) (Ev.now _))
   (fun i hi ih => by
    have r := hr _ (List.getElem_mem hi)
    have ea : ((l[i].f0.toNat : Nat) : Int) = l[i].f0 := by omega
    have eb : ((l[i].f1.toNat : Nat) : Int) = l[i].f1 := by omega
    have hput := tab_put (n := n) (by omega) (adj (l.take i)) (a := l[i].f0.toNat) (b := l[i].f1.toNat) (by omega) (by omega) (by omega)
    rw [ea, eb] at hput
    have hnext : tabF n (withP (adj (l.take i)) l[i].f0.toNat l[i].f1.toNat) = tabF n (adj (l.take (i + 1))) := by
     apply tabF_congr
     intro c d _ _
     rw [List.take_succ_eq_append_getElem hi, adj_snoc]
     unfold withP
     congr 1
     have k1 : decide (c = l[i].f0.toNat) = decide (l[i].f0 = (c : Int)) := by apply decide_eq_decide.mpr; omega
     have k2 : decide (d = l[i].f1.toNat) = decide (l[i].f1 = (d : Int)) := by apply decide_eq_decide.mpr; omega
     have k3 : decide (c = l[i].f1.toNat) = decide (l[i].f1 = (c : Int)) := by apply decide_eq_decide.mpr; omega
     have k4 : decide (d = l[i].f0.toNat) = decide (l[i].f0 = (d : Int)) := by apply decide_eq_decide.mpr; omega
     rw [k1, k2, k3, k4, Bool.and_comm (decide (l[i].f1 = (c : Int)))]
    rw [hnext] at hput
    refine Ev.step (f := fun k => impl_Party_table.l0 k (tabF n (adj (l.take (i + 1)))) l (l.length : Int) ((i + 1 : Nat) : Int)) (fun k => ?_) ih
    simp only [impl_Party_table.l0]
    rw [if_pos (by omega), if_pos (by omega), if_pos (by omega), rdP_at hi, if_pos (by omega), if_pos (by rw [tabF_length]; omega), if_pos (by omega), Option.bind_some, if_pos (by rw [tabF_length]; omega), hput, succ_cast hi h]) 0 (Nat.zero_le _)
  have e : tabF n (adj (l.take 0)) = List.replicate n 0 := by
   have hz : ∀ m, maskOf (fun _ => false) m = 0 := by
    intro m
    induction m with
    | zero => rfl
    | succ m ih => unfold maskOf; rw [ih]; simp
   have : tabF n (fun _ _ => false) = List.replicate n 0 := by
    unfold tabF
    rw [List.eq_replicate_iff]
    refine ⟨by simp, fun b hb => ?_⟩
    obtain ⟨a, _, rfl⟩ := List.mem_map.1 hb
    rw [hz]; rfl
   rw [← this]
   apply tabF_congr
   intro a b _ _
   rw [List.take_zero, adj_nil]
  rw [e] at q
  exact q
end Go.Proofs.YtedfcbbklhfgcaaDoor.Plain

/- The reference's table of a party: for each person, of each person, whether they are friends. No condition but lengths that fit. -/
namespace Go.Proofs.YtedfcbbklhfgcaaDoor.Plain
open Go.RowKit Go.Proofs.YtedfcbbklhfgcaaDoorW.PrintWords Go.Proofs.YtedfcbbklhfgcaaDoorW.PrintLast
set_option linter.unusedVariables false
open Q

theorem rdB_at {l : List (List Bool)} {i : Nat} (h : i < l.length) : rd_L4 l (i : Int) = l[i] := by
 simp [rd_L4, List.getD, h]
theorem rdOfB_at {l : List Bool} {i : Nat} (h : i < l.length) : rdOf false l (i : Int) = l[i] := by
 simp [rdOf, List.getD, h]

/-- The table of a relation of n people, as bools. -/
def rowB (n : Nat) (f : Nat → Bool) : List Bool := (List.range n).map f
def tabB (n : Nat) (f : Nat → Nat → Bool) : List (List Bool) := (List.range n).map fun a => rowB n (f a)
theorem rowB_length (n : Nat) (f : Nat → Bool) : (rowB n f).length = n := by simp [rowB]
theorem rowB_get {n : Nat} {f : Nat → Bool} {a : Nat} (h : a < (rowB n f).length) : (rowB n f)[a] = f a := by simp [rowB]
theorem tabB_length (n : Nat) (f : Nat → Nat → Bool) : (tabB n f).length = n := by simp [tabB]
theorem tabB_getElem {n : Nat} {f : Nat → Nat → Bool} {a : Nat} (h : a < (tabB n f).length) : (tabB n f)[a] = rowB n (f a) := by simp [tabB]
theorem tabB_get {n : Nat} {f : Nat → Nat → Bool} {a : Nat} (h : a < n) : rd_L4 (tabB n f) (a : Int) = rowB n (f a) := by
 rw [rdB_at (by rw [tabB_length]; exact h), tabB_getElem]
theorem rowB_congr {n : Nat} {f g : Nat → Bool} (h : ∀ b, b < n → f b = g b) : rowB n f = rowB n g := by
 unfold rowB
 apply List.map_congr_left
 intro b hb
 exact h b (by simpa using hb)
theorem tabB_congr {n : Nat} {f g : Nat → Nat → Bool} (h : ∀ a b, a < n → b < n → f a b = g a b) : tabB n f = tabB n g := by
 unfold tabB
 apply List.map_congr_left
 intro a ha
 exact rowB_congr (fun b hb => h a b (by simpa using ha) hb)
theorem rowB_set {n : Nat} {f : Nat → Bool} {b : Nat} (v : Bool) : (rowB n f).set b v = rowB n (fun c => if c = b then v else f c) := by
 apply List.ext_getElem
 ·simp [rowB_length]
 ·intro i h1 h2
  rw [List.getElem_set, rowB_get]
  by_cases e : b = i
  ·subst e; rw [if_pos rfl, rowB_get, if_pos rfl]
  ·rw [if_neg e, rowB_get, if_neg (fun q => e q.symm)]

/-- Two cells set, the one of both people's. -/
def setP (f : Nat → Nat → Bool) (a b : Nat) (v : Bool) : Nat → Nat → Bool := fun c d => if (c = a ∧ d = b) ∨ (c = b ∧ d = a) then v else f c d

theorem tabB_put {n : Nat} (f : Nat → Nat → Bool) {a b : Nat} (ha : a < n) (hb : b < n) (hab : a ≠ b) (v : Bool) :
  ((tabB n f).set a ((rd_L4 (tabB n f) (a : Int)).set b v)).set b ((rd_L4 ((tabB n f).set a ((rd_L4 (tabB n f) (a : Int)).set b v)) (b : Int)).set a v) = tabB n (setP f a b v) := by
 have e2 : rd_L4 ((tabB n f).set a ((rd_L4 (tabB n f) (a : Int)).set b v)) (b : Int) = rowB n (f b) := by
  rw [rdB_at (by rw [List.length_set, tabB_length]; exact hb), List.getElem_set_ne hab, tabB_getElem]
 rw [e2, tabB_get ha, rowB_set, rowB_set]
 apply List.ext_getElem
 ·simp [tabB_length]
 ·intro i h1 h2
  rw [tabB_length] at h2
  rw [List.getElem_set, List.getElem_set]
  by_cases i1 : b = i
  ·subst i1
   rw [if_pos rfl, tabB_getElem]
   apply rowB_congr
   intro c _
   unfold setP
   simp [show ¬ (b = a) from fun q => hab q.symm]
  ·rw [if_neg i1]
   by_cases i2 : a = i
   ·subst i2
    rw [if_pos rfl, tabB_getElem]
    apply rowB_congr
    intro c _
    unfold setP
    simp [hab]
   ·rw [if_neg i2, tabB_getElem, tabB_getElem]
    apply rowB_congr
    intro c _
    unfold setP
    simp [show ¬ (i = a) from fun q => i2 q.symm, show ¬ (i = b) from fun q => i1 q.symm]

theorem setP_true (f : Nat → Nat → Bool) (a b c d : Nat) : setP f a b true c d = withP f a b c d := by
 unfold setP withP
 by_cases h : (c = a ∧ d = b) ∨ (c = b ∧ d = a)
 ·rw [if_pos h]
  rcases h with ⟨rfl, rfl⟩ | ⟨rfl, rfl⟩ <;> simp
 ·rw [if_neg h]
  have : ((decide (c = a) && decide (d = b)) || (decide (c = b) && decide (d = a))) = false := by
   rw [Bool.eq_false_iff]
   intro q
   exact h (by simpa using q)
  rw [this, Bool.or_false]

theorem adj_next {n : Nat} {l : List Pr} (hr : Right n l) {i : Nat} (hi : i < l.length) (c d : Nat) : withP (adj (l.take i)) l[i].f0.toNat l[i].f1.toNat c d = adj (l.take (i + 1)) c d := by
 have r := hr _ (List.getElem_mem hi)
 rw [List.take_succ_eq_append_getElem hi, adj_snoc]
 unfold withP
 congr 1
 have k1 : decide (c = l[i].f0.toNat) = decide (l[i].f0 = (c : Int)) := by apply decide_eq_decide.mpr; omega
 have k2 : decide (d = l[i].f1.toNat) = decide (l[i].f1 = (d : Int)) := by apply decide_eq_decide.mpr; omega
 have k3 : decide (c = l[i].f1.toNat) = decide (l[i].f1 = (c : Int)) := by apply decide_eq_decide.mpr; omega
 have k4 : decide (d = l[i].f0.toNat) = decide (l[i].f0 = (d : Int)) := by apply decide_eq_decide.mpr; omega
 rw [k1, k2, k3, k4, Bool.and_comm (decide (l[i].f1 = (c : Int)))]

theorem paTable_ev {n : Nat} {l : List Pr} (hn : n ≤ 12) (hr : Right n l) (h : l.length ≤ 9223372036854775807) : Ev (fun k => spec_paTable.f k (n : Int) l) (tabB n (adj l)) := by
 have q1 := ev_up (n := l.length) (loop := fun k i => spec_paTable.l1 k (tabB n (adj (l.take i))) l (l.length : Int) (i : Int)) (r := fun _ => tabB n (adj l))
  (Ev.step (f := fun _ => some (tabB n (adj l))) (fun k => by simp [spec_paTable.l1]) (Ev.now _))
  (fun i hi ih => by
   have r := hr _ (List.getElem_mem hi)
   have ea : ((l[i].f0.toNat : Nat) : Int) = l[i].f0 := by omega
   have eb : ((l[i].f1.toNat : Nat) : Int) = l[i].f1 := by omega
   have hput := tabB_put (n := n) (adj (l.take i)) (a := l[i].f0.toNat) (b := l[i].f1.toNat) (by omega) (by omega) (by omega) true
   have hnext : tabB n (setP (adj (l.take i)) l[i].f0.toNat l[i].f1.toNat true) = tabB n (adj (l.take (i + 1))) :=
    tabB_congr (fun c d _ _ => by rw [setP_true, adj_next hr hi])
   rw [hnext] at hput
   have la : (rd_L4 (tabB n (adj (l.take i))) l[i].f0).length = n := by
    rw [← ea, tabB_get (by omega), rowB_length]
   have lb : (rd_L4 ((tabB n (adj (l.take i))).set l[i].f0.toNat ((rd_L4 (tabB n (adj (l.take i))) l[i].f0).set l[i].f1.toNat true)) l[i].f1).length = n := by
    rw [← eb, rdB_at (by rw [List.length_set, tabB_length]; omega), List.getElem_set_ne (by omega), tabB_getElem, rowB_length]
   rw [ea, eb] at hput
   refine Ev.step (f := fun k => spec_paTable.l1 k (tabB n (adj (l.take (i + 1)))) l (l.length : Int) ((i + 1 : Nat) : Int)) (fun k => ?_) ih
   simp only [spec_paTable.l1]
   rw [if_pos (by omega), if_pos (by omega), if_pos (by omega), rdP_at hi, if_pos (by omega), if_pos (by rw [tabB_length]; omega), if_pos (by omega), if_pos (by rw [la]; omega), Option.bind_some, if_pos (by rw [tabB_length]; omega), if_pos (by rw [lb]; omega), hput, succ_cast hi h]) 0 (Nat.zero_le _)
 have e0 : tabB n (adj (l.take 0)) = List.replicate n (List.replicate n false) := by
  unfold tabB
  rw [List.eq_replicate_iff]
  refine ⟨by simp, fun b hb => ?_⟩
  obtain ⟨a, _, rfl⟩ := List.mem_map.1 hb
  unfold rowB
  rw [List.eq_replicate_iff]
  refine ⟨by simp, fun c hc => ?_⟩
  obtain ⟨d, _, rfl⟩ := List.mem_map.1 hc
  rw [List.take_zero, adj_nil]
 rw [e0] at q1
 have q0 := ev_up (n := n) (loop := fun k i => spec_paTable.l0 k (List.replicate i (List.replicate n false)) (i : Int) (n : Int) l) (r := fun _ => tabB n (adj l))
  (Ev.step (f := fun k => spec_paTable.l1 k (List.replicate n (List.replicate n false)) l (l.length : Int) 0) (fun k => by
   simp only [spec_paTable.l0]
   rw [if_neg (by omega)]) q1)
  (fun i hi ih => by
   refine Ev.step (f := fun k => spec_paTable.l0 k (List.replicate (i + 1) (List.replicate n false)) ((i + 1 : Nat) : Int) (n : Int) l) (fun k => ?_) ih
   simp only [spec_paTable.l0]
   rw [if_pos (by omega), if_pos (by omega), if_pos (by omega), if_pos (by simp; omega), Int.toNat_natCast, succ_cast hi (by omega), ← List.replicate_succ']) 0 (Nat.zero_le _)
 exact q0
end Go.Proofs.YtedfcbbklhfgcaaDoor.Plain

/- The law's own functions over parties, and the reference's test. No condition but lengths that fit. -/
namespace Go.Proofs.YtedfcbbklhfgcaaDoor.Plain
open Go.RowKit Go.Proofs.YtedfcbbklhfgcaaDoorW.PrintWords Go.Proofs.YtedfcbbklhfgcaaDoorW.PrintLast
set_option linter.unusedVariables false
open Q

abbrev Lp := S70
/-- A pair of the law's as a pair of the program's. -/
def toP (x : Lp) : Pr := ⟨x.f0, x.f1⟩

theorem szParty_eq (n : Int) (l : List Lp) (a : Int) (h0 : 0 ≤ a) (h1 : a ≤ 1048576) (h : l.length ≤ 9223372036854775807) : laws_szParty.f n l a = some (if a < (l.length : Int) then -1 else a - l.length) := by
 unfold laws_szParty.f laws_szPairS.f
 rw [wrap_id (by omega) (by omega)]
 by_cases hl : a < (l.length : Int)
 ·rw [if_pos (by omega), Option.bind_some, if_pos (by omega), if_pos hl]
 ·rw [if_neg (by omega), Option.bind_some, if_neg (by omega), if_neg hl]

theorem rdLp_at {l : List Lp} {i : Nat} (h : i < l.length) : rd_T70 l (i : Int) = l[i] := by
 simp [rd_T70, List.getD, h]

theorem copy_map {α β : Type} (z : β) (g : α → β) (l : List α) (i : Nat) (h : i < l.length) :
  ((l.map g).take i ++ List.replicate (l.length - i) z).set ((i : Int)).toNat (g l[i]) = (l.map g).take (i + 1) ++ List.replicate (l.length - (i + 1)) z := by
 have e : l.length - i = (l.length - (i + 1)) + 1 := by omega
 have hl : ((l.map g).take i).length = i := by simp; omega
 have hm : i < (l.map g).length := by simpa using h
 rw [Int.toNat_natCast, e, List.replicate_succ, List.set_append_right _ _ (by omega), hl, Nat.sub_self, List.set_cons_zero, List.take_succ_eq_append_getElem hm, List.append_assoc, List.getElem_map]
 rfl

theorem toPairS_ev (l : List Lp) (h : l.length ≤ 17592186044416) : Ev (fun k => laws_toPairS.f k l) (l.map toP) := by
 refine Ev.congr (f := fun k => laws_toPairS.l0 k l (List.replicate l.length z56) 0) (fun k => ?_) ?_
 ·unfold laws_toPairS.f
  rw [if_pos (by omega), if_pos (by omega), Int.toNat_natCast]
 ·have q := ev_up (n := l.length) (loop := fun k i => laws_toPairS.l0 k l ((l.map toP).take i ++ List.replicate (l.length - i) z56) (i : Int)) (r := fun _ => l.map toP)
   (Ev.step (f := fun _ => some (l.map toP)) (fun k => by
    simp only [laws_toPairS.l0]
    rw [if_neg (by omega), Nat.sub_self, List.replicate_zero, List.append_nil, List.take_of_length_le (by simp)]) (Ev.now _))
   (fun i hi ih => Ev.step (f := fun k => laws_toPairS.l0 k l ((l.map toP).take (i + 1) ++ List.replicate (l.length - (i + 1)) z56) ((i + 1 : Nat) : Int)) (fun k => by
    simp only [laws_toPairS.l0]
    rw [if_pos (by omega), if_pos (by omega), rdLp_at hi]
    show (if (i : Int) < _ then laws_toPairS.l0 k l (List.set _ _ (toP l[i])) _ else none) = _
    rw [if_pos (by simp; omega), copy_map _ toP l i hi, succ_cast hi (by omega)]) ih) 0 (Nat.zero_le _)
  simpa using q

theorem toParty_ev (n : Int) (l : List Lp) (h : l.length ≤ 17592186044416) : Ev (fun k => laws_toParty.f k n l) (n, l.map toP) := by
 unfold laws_toParty.f
 exact Ev.bind (f := fun _ t => some (n, t)) (toPairS_ev l h) (Ev.now _)

theorem eqPair_eq (x : Pr) : laws_eqPair.f x.f0 x.f1 x.f0 x.f1 = some true := by
 unfold laws_eqPair.f
 rw [if_pos rfl, if_pos rfl]

theorem eqPairS_ev (l : List Pr) (h : l.length ≤ 9223372036854775807) : Ev (fun k => laws_eqPairS.f k l l) true := by
 refine Ev.congr (f := fun k => laws_eqPairS.l0 k l l 0) (fun k => ?_) ?_
 ·unfold laws_eqPairS.f
  rw [if_pos rfl]
 ·exact ev_up (n := l.length) (loop := fun k i => laws_eqPairS.l0 k l l (i : Int)) (r := fun _ => true)
   (Ev.step (f := fun _ => some true) (fun k => by simp [laws_eqPairS.l0]) (Ev.now true))
   (fun i hi ih => Ev.step (f := fun k => laws_eqPairS.l0 k l l ((i + 1 : Nat) : Int)) (fun k => by
    simp only [laws_eqPairS.l0]
    rw [if_pos (by omega), if_pos (by omega), if_pos (by omega), rdP_at hi, eqPair_eq, Option.bind_some, if_pos rfl, succ_cast hi h]) ih) 0 (Nat.zero_le _)

theorem eqParty_ev (n : Int) (l : List Pr) (h : l.length ≤ 9223372036854775807) : Ev (fun k => laws_eqParty.f k n l n l) true := by
 refine Ev.congr (f := fun k => (laws_eqPairS.f k l l).bind fun t => if t = true then some true else some false) (fun k => ?_) ?_
 ·unfold laws_eqParty.f
  rw [if_pos rfl]
 ·exact Ev.bind (f := fun _ t => if t = true then some true else some false) (eqPairS_ev l h) (ev_some (fun _ => rfl))
end Go.Proofs.YtedfcbbklhfgcaaDoor.Plain

/- The reference's test of a party. No condition but a length that fits. -/
namespace Go.Proofs.YtedfcbbklhfgcaaDoor.Plain
open Go.RowKit Go.Proofs.YtedfcbbklhfgcaaDoorW.PrintWords Go.Proofs.YtedfcbbklhfgcaaDoorW.PrintLast
set_option linter.unusedVariables false
open Q

/-- All pairs of n people. -/
def pairsOf (n : Nat) : List (Nat × Nat) := (List.range n).flatMap fun a => ((List.range n).filter fun b => decide (a < b)).map fun b => (a, b)

theorem pairsOf_length : ∀ n : Fin 13, (((pairsOf n.val).length : Nat) : Int) = (n.val : Int) * ((n.val : Int) - 1) / 2 := by decide +kernel

theorem mem_pairsOf {n a b : Nat} (h : a < b) (hb : b < n) : (a, b) ∈ pairsOf n := by
 unfold pairsOf
 rw [List.mem_flatMap]
 exact ⟨a, List.mem_range.mpr (by omega), List.mem_map.mpr ⟨b, List.mem_filter.mpr ⟨List.mem_range.mpr hb, by simpa using h⟩, rfl⟩⟩

/-- There are no more pairs in a party than pairs of its people. -/
theorem party_len {n : Nat} {l : List Pr} (hn : n ≤ 12) (hr : Right n l) (hs : ∀ i j, (hj : j < l.length) → (hij : i < j) → lessB l[i] l[j] = true) : (l.length : Int) ≤ (n : Int) * ((n : Int) - 1) / 2 := by
 have hnd : (l.map fun x => (x.f0.toNat, x.f1.toNat)).Nodup := by
  rw [List.nodup_iff_pairwise_ne, List.pairwise_iff_getElem]
  intro i j hi hj hij e
  simp only [List.length_map] at hi hj
  simp only [List.getElem_map, Prod.mk.injEq] at e
  have s := hs i j hj hij
  have r1 := hr _ (List.getElem_mem hi)
  have r2 := hr _ (List.getElem_mem hj)
  unfold lessB at s
  simp only [Bool.or_eq_true, Bool.and_eq_true, decide_eq_true_eq] at s
  omega
 have hsub : (l.map fun x => (x.f0.toNat, x.f1.toNat)) ⊆ pairsOf n := by
  intro p hp
  obtain ⟨x, hx, rfl⟩ := List.mem_map.1 hp
  have := hr x hx
  exact mem_pairsOf (by omega) (by omega)
 have h1 := List.Nodup.length_le_of_subset hnd hsub
 rw [List.length_map] at h1
 have h2 := pairsOf_length ⟨n, by omega⟩
 simp only [] at h2
 omega

theorem bound_eq {n : Int} (h0 : 0 ≤ n) (h1 : n ≤ 12) : wrap64 (Int.tdiv (wrap64 (n * (wrap64 (n - 1)))) 2) = n * (n - 1) / 2 := by
 have : n = 0 ∨ n = 1 ∨ n = 2 ∨ n = 3 ∨ n = 4 ∨ n = 5 ∨ n = 6 ∨ n = 7 ∨ n = 8 ∨ n = 9 ∨ n = 10 ∨ n = 11 ∨ n = 12 := by omega
 rcases this with rfl | rfl | rfl | rfl | rfl | rfl | rfl | rfl | rfl | rfl | rfl | rfl | rfl <;> decide +kernel

theorem paPeople_eq (n : Int) : spec_paPeople.f n = some (decide (0 ≤ n) && decide (n ≤ 12)) := by
 unfold spec_paPeople.f
 rw [l1In_eq]; rfl

theorem paGood_l0 (n : Int) (l : List Pr) (h0 : 0 ≤ n) (h1 : n ≤ 12) (h : l.length ≤ 9223372036854775807) : Ev (fun k => spec_paGood.l0 k l (l.length : Int) 0 n l) ((List.range l.length).all (okAt n l)) := by
 have q := ev_up (n := l.length) (loop := fun k i => spec_paGood.l0 k l (l.length : Int) (i : Int) n l) (r := fun i => ((List.range l.length).drop i).all (okAt n l))
  (Ev.step (f := fun _ => some true) (fun k => by simp only [spec_paGood.l0]; rw [if_neg (by omega)]) (by rw [all_end _ (Nat.le_refl _)]; exact Ev.now _))
  (fun i hi ih => by
   rw [all_step (okAt n l) hi]
   have e0 : okAt n l i = (pairOk n l[i] && (decide (i = 0) || lessB (rdP l ((i : Int) - 1)) l[i])) := by
    unfold okAt rdP; rw [rdP_at hi]
   have wn : wrap64 (n - 1) = n - 1 := wrap_id (by omega) (by omega)
   by_cases a1 : 0 ≤ l[i].f0 ∧ l[i].f0 ≤ n - 1
   ·have w1 : wrap64 (l[i].f0 + 1) = l[i].f0 + 1 := wrap_id (by omega) (by omega)
    have b1 : (decide (0 ≤ l[i].f0) && decide (l[i].f0 ≤ n - 1)) = true := by simpa using a1
    by_cases a2 : l[i].f0 + 1 ≤ l[i].f1 ∧ l[i].f1 ≤ n - 1
    ·have b2 : (decide (l[i].f0 + 1 ≤ l[i].f1) && decide (l[i].f1 ≤ n - 1)) = true := by simpa using a2
     have ep : pairOk n l[i] = true := by simp [pairOk]; omega
     by_cases a4 : i = 0
     ·have e : okAt n l i = true := by rw [e0, ep, decide_eq_true a4]; simp
      rw [e]
      refine Ev.step (f := fun k => spec_paGood.l0 k l (l.length : Int) ((i + 1 : Nat) : Int) n l) (fun k => ?_) (by simpa using ih)
      simp only [spec_paGood.l0]
      rw [if_pos (by omega), if_pos (by omega), if_pos (by omega), rdP_at hi, wn, l1In_eq, b1, Option.bind_some, if_pos rfl, w1, l1In_eq, b2, Option.bind_some, if_pos rfl, if_neg (by omega), succ_cast hi h]
     ·have ew : wrap64 ((i : Int) - 1) = ((i - 1 : Nat) : Int) := pred_cast (by omega) (by omega)
      have ew2 : ((i : Int) - 1) = ((i - 1 : Nat) : Int) := by omega
      have e : okAt n l i = lessB l[i-1] l[i] := by
       rw [e0, ep, decide_eq_false a4, ew2]
       unfold rdP
       rw [rdP_at (by omega)]; simp
      rw [e]
      refine Ev.step (f := fun k => if lessB l[i-1] l[i] = true then spec_paGood.l0 k l (l.length : Int) ((i + 1 : Nat) : Int) n l else some false) (fun k => ?_) ?_
      ·simp only [spec_paGood.l0]
       rw [if_pos (by omega), if_pos (by omega), if_pos (by omega), rdP_at hi, wn, l1In_eq, b1, Option.bind_some, if_pos rfl, w1, l1In_eq, b2, Option.bind_some, if_pos rfl, if_pos (by omega), ew, if_pos (by omega), if_pos (by omega), rdP_at (by omega : i - 1 < l.length), paLess_eq, Option.bind_some, succ_cast hi h]
      ·cases hb : lessB l[i-1] l[i] with
       | true => exact ev_if (fun _ => by simpa using ih) (fun h => absurd rfl h)
       | false => exact ev_some (fun _ => by simp)
    ·have b2 : (decide (l[i].f0 + 1 ≤ l[i].f1) && decide (l[i].f1 ≤ n - 1)) = false := by
      rw [Bool.eq_false_iff]; intro q; exact a2 (by simpa using q)
     have e : okAt n l i = false := by rw [e0]; simp [pairOk]; omega
     rw [e]
     refine Ev.step (f := fun _ => some false) (fun k => ?_) (by simpa using Ev.now false)
     simp only [spec_paGood.l0]
     rw [if_pos (by omega), if_pos (by omega), if_pos (by omega), rdP_at hi, wn, l1In_eq, b1, Option.bind_some, if_pos rfl, w1, l1In_eq, b2, Option.bind_some, if_neg (by simp)]
   ·have b1 : (decide (0 ≤ l[i].f0) && decide (l[i].f0 ≤ n - 1)) = false := by
     rw [Bool.eq_false_iff]; intro q; exact a1 (by simpa using q)
    have e : okAt n l i = false := by rw [e0]; simp [pairOk]; omega
    rw [e]
    refine Ev.step (f := fun _ => some false) (fun k => ?_) (by simpa using Ev.now false)
    simp only [spec_paGood.l0]
    rw [if_pos (by omega), if_pos (by omega), if_pos (by omega), rdP_at hi, wn, l1In_eq, b1, Option.bind_some, if_neg (by simp)]) 0 (Nat.zero_le _)
 simpa using q

theorem paGood_ev (n : Int) (l : List Pr) (h : l.length ≤ 9223372036854775807) : Ev (fun k => spec_paGood.f k n l) (party n l) := by
 unfold spec_paGood.f
 refine ev_bind0 (paPeople_eq n) ?_
 cases hb : (decide (0 ≤ n) && decide (n ≤ 12)) with
 | false =>
  have e : party n l = false := by unfold party; rw [hb]; rfl
  rw [e]
  refine ev_if (fun h => by simp at h) (fun _ => ?_)
  exact Ev.step (f := fun _ => some false) (fun k => by simp [spec_paGood.j0]) (Ev.now _)
 | true =>
  have hn : 0 ≤ n ∧ n ≤ 12 := by simpa using hb
  have e : party n l = (List.range l.length).all (okAt n l) := by unfold party; rw [hb]; rfl
  refine ev_if (fun _ => ?_) (fun h => absurd rfl h)
  rw [bound_eq hn.1 hn.2]
  by_cases c : (l.length : Int) > n * (n - 1) / 2
  ·refine Ev.step (f := fun _ => some false) (fun k => ?_) ?_
   ·simp only [spec_paGood.j0]
    rw [if_pos (decide_eq_true c)]
   ·cases hp : party n l with
    | false => exact Ev.now _
    | true =>
     exfalso
     obtain ⟨m, rfl, h12, hr, hs⟩ := party_right hp
     have := party_len h12 hr hs
     omega
  ·rw [e]
   refine Ev.step (f := fun k => spec_paGood.l0 k l (l.length : Int) 0 n l) (fun k => ?_) (paGood_l0 n l hn.1 hn.2 h)
   simp only [spec_paGood.j0]
   rw [if_neg (by simpa using c)]
end Go.Proofs.YtedfcbbklhfgcaaDoor.Plain

/- The laws' marks: written into a list and found again. No condition but a length that fits. -/
namespace Go.Proofs.YtedfcbbklhfgcaaDoor.Plain
open Go.RowKit Go.Proofs.YtedfcbbklhfgcaaDoorW.PrintWords Go.Proofs.YtedfcbbklhfgcaaDoorW.PrintLast
set_option linter.unusedVariables false
open Q

/-- The marks of n pairs from v on. -/
def marksP (v : Int) (n : Nat) : List Pr := (List.range n).map fun i : Nat => ⟨v + 2 * (i : Int), v + 2 * (i : Int) + 1⟩
/-- The marks of n numbers from v on. -/
def marksI (v : Int) (n : Nat) : List Int := (List.range n).map fun i : Nat => v + (i : Int)
theorem marksP_length (v : Int) (n : Nat) : (marksP v n).length = n := by simp [marksP]
theorem marksI_length (v : Int) (n : Nat) : (marksI v n).length = n := by simp [marksI]
theorem marksP_get {v : Int} {n i : Nat} (h : i < (marksP v n).length) : (marksP v n)[i] = ⟨v + 2 * (i : Int), v + 2 * (i : Int) + 1⟩ := by simp [marksP]
theorem marksI_get {v : Int} {n i : Nat} (h : i < (marksI v n).length) : (marksI v n)[i] = v + (i : Int) := by simp [marksI]

theorem marksP_step (v : Int) (l : List Pr) {i : Nat} (hi : i < l.length) (x : Pr) (hx : x = ⟨v + 2 * (i : Int), v + 2 * (i : Int) + 1⟩) : (marksP v i ++ l.drop i).set i x = marksP v (i + 1) ++ l.drop (i + 1) := by
 apply List.ext_getElem
 ·simp [marksP_length]; omega
 ·intro j h1 h2
  rw [List.getElem_set]
  by_cases e : i = j
  ·subst e
   rw [if_pos rfl, List.getElem_append_left (by rw [marksP_length]; omega), marksP_get, hx]
  ·rw [if_neg e]
   by_cases c : j < i
   ·rw [List.getElem_append_left (by rw [marksP_length]; omega), List.getElem_append_left (by rw [marksP_length]; omega), marksP_get, marksP_get]
   ·rw [List.getElem_append_right (by rw [marksP_length]; omega), List.getElem_append_right (by rw [marksP_length]; omega), List.getElem_drop, List.getElem_drop]
    congr 1
    rw [marksP_length, marksP_length]
    omega
theorem marksI_step (v : Int) (l : List Int) {i : Nat} (hi : i < l.length) : (marksI v i ++ l.drop i).set i (v + (i : Int)) = marksI v (i + 1) ++ l.drop (i + 1) := by
 apply List.ext_getElem
 ·simp [marksI_length]; omega
 ·intro j h1 h2
  rw [List.getElem_set]
  by_cases e : i = j
  ·subst e
   rw [if_pos rfl, List.getElem_append_left (by rw [marksI_length]; omega), marksI_get]
  ·rw [if_neg e]
   by_cases c : j < i
   ·rw [List.getElem_append_left (by rw [marksI_length]; omega), List.getElem_append_left (by rw [marksI_length]; omega), marksI_get, marksI_get]
   ·rw [List.getElem_append_right (by rw [marksI_length]; omega), List.getElem_append_right (by rw [marksI_length]; omega), List.getElem_drop, List.getElem_drop]
    congr 1
    rw [marksI_length, marksI_length]
    omega

theorem markPairS_ev (l : List Pr) (v : Int) (h : l.length ≤ 1152921504606846976) (h0 : 0 ≤ v) (h1 : v ≤ 1000) : Ev (fun k => laws_markPairS.f k l v) (v + 2 * (l.length : Int), marksP v l.length) := by
 have q := ev_up (n := l.length) (loop := fun k i => laws_markPairS.l0 k (marksP v i ++ l.drop i) (v + 2 * (i : Int)) (i : Int)) (r := fun _ => (v + 2 * (l.length : Int), marksP v l.length))
  (by
   refine Ev.step (f := fun _ => some (v + 2 * (l.length : Int), marksP v l.length)) (fun k => ?_) (Ev.now _)
   simp only [laws_markPairS.l0]
   rw [List.drop_length, List.append_nil, if_neg (by rw [marksP_length]; omega)])
  (fun i hi ih => by
   have hlen : (marksP v i ++ l.drop i).length = l.length := by rw [List.length_append, marksP_length, List.length_drop]; omega
   have w1 : wrap64 (v + 2 * (i : Int) + 1) = v + 2 * (i : Int) + 1 := wrap_id (by omega) (by omega)
   have w2 : wrap64 (v + 2 * (i : Int) + 1 + 1) = v + 2 * ((i + 1 : Nat) : Int) := by rw [wrap_id (by omega) (by omega)]; omega
   refine Ev.step (f := fun k => laws_markPairS.l0 k (marksP v (i + 1) ++ l.drop (i + 1)) (v + 2 * ((i + 1 : Nat) : Int)) ((i + 1 : Nat) : Int)) (fun k => ?_) ih
   simp only [laws_markPairS.l0]
   rw [if_pos (by rw [hlen]; omega), if_pos (by omega), Option.bind_some, w1, w2, succ_cast hi (by omega), Int.toNat_natCast, List.set_set]
   rw [marksP_step v l hi _ (by rw [rdP_at (by rw [List.length_set, hlen]; exact hi), List.getElem_set_self])]) 0 (Nat.zero_le _)
 have e : marksP v 0 ++ l.drop 0 = l := by simp [marksP]
 rw [e] at q
 simpa [laws_markPairS.f] using q

theorem markIntS_ev (l : List Int) (v : Int) (h : l.length ≤ 1152921504606846976) (h0 : 0 ≤ v) (h1 : v ≤ 1000) : Ev (fun k => laws_markIntS.f k l v) (v + (l.length : Int), marksI v l.length) := by
 have q := ev_up (n := l.length) (loop := fun k i => laws_markIntS.l0 k (marksI v i ++ l.drop i) (v + (i : Int)) (i : Int)) (r := fun _ => (v + (l.length : Int), marksI v l.length))
  (by
   refine Ev.step (f := fun _ => some (v + (l.length : Int), marksI v l.length)) (fun k => ?_) (Ev.now _)
   simp only [laws_markIntS.l0]
   rw [List.drop_length, List.append_nil, if_neg (by rw [marksI_length]; omega)])
  (fun i hi ih => by
   have hlen : (marksI v i ++ l.drop i).length = l.length := by rw [List.length_append, marksI_length, List.length_drop]; omega
   have w1 : wrap64 (v + (i : Int) + 1) = v + ((i + 1 : Nat) : Int) := by rw [wrap_id (by omega) (by omega)]; omega
   refine Ev.step (f := fun k => laws_markIntS.l0 k (marksI v (i + 1) ++ l.drop (i + 1)) (v + ((i + 1 : Nat) : Int)) ((i + 1 : Nat) : Int)) (fun k => ?_) ih
   simp only [laws_markIntS.l0]
   rw [if_pos (by rw [hlen]; omega), if_pos (by omega), w1, succ_cast hi (by omega), Int.toNat_natCast, marksI_step v l hi]) 0 (Nat.zero_le _)
 have e : marksI v 0 ++ l.drop 0 = l := by simp [marksI]
 rw [e] at q
 simpa [laws_markIntS.f] using q

theorem heldIntS_ev (n : Nat) (v : Int) (h : n ≤ 1152921504606846976) (h0 : 0 ≤ v) (h1 : v ≤ 1000) : Ev (fun k => laws_heldIntS.f k (marksI v n) v) (v + (n : Int)) := by
 have hl := marksI_length v n
 have q := ev_up (n := n) (loop := fun k i => laws_heldIntS.l0 k (marksI v n) (v + (i : Int)) (i : Int)) (r := fun _ => v + (n : Int))
  (Ev.step (f := fun _ => some (v + (n : Int))) (fun k => by simp only [laws_heldIntS.l0]; rw [if_neg (by rw [hl]; omega)]) (Ev.now _))
  (fun i hi ih => by
   have w1 : wrap64 (v + (i : Int) + 1) = v + ((i + 1 : Nat) : Int) := by rw [wrap_id (by omega) (by omega)]; omega
   refine Ev.step (f := fun k => laws_heldIntS.l0 k (marksI v n) (v + ((i + 1 : Nat) : Int)) ((i + 1 : Nat) : Int)) (fun k => ?_) ih
   simp only [laws_heldIntS.l0]
   rw [if_pos (by rw [hl]; omega), if_pos (by omega), rd_at (by rw [hl]; exact hi), marksI_get, if_pos rfl, w1, succ_cast hi (by omega)]) 0 (Nat.zero_le _)
 simpa [laws_heldIntS.f] using q

theorem markParty_ev (n : Int) (l : List Pr) (h : l.length ≤ 1152921504606846976) : Ev (fun k => laws_markParty.f k n l 1) (1 + 2 * (l.length : Int), marksP 1 l.length) := by
 unfold laws_markParty.f
 exact Ev.bind (f := fun _ bt => some (bt.1, bt.2)) (markPairS_ev l 1 h (by omega) (by omega)) (Ev.now _)

end Go.Proofs.YtedfcbbklhfgcaaDoor.Plain

/- The places at which a test holds, as a list. No condition. -/
namespace Go.Proofs.YtedfcbbklhfgcaaDoor.Plain
open Go.RowKit Go.Proofs.YtedfcbbklhfgcaaDoorW.PrintWords Go.Proofs.YtedfcbbklhfgcaaDoorW.PrintLast
set_option linter.unusedVariables false
open Q

/-- The numbers less than n at which f holds, from i on. -/
def posFrom (f : Nat → Bool) (n i : Nat) : List Int := (((List.range n).drop i).filter f).map fun b : Nat => (b : Int)
def posL (f : Nat → Bool) (n : Nat) : List Int := posFrom f n 0
theorem posFrom_end (f : Nat → Bool) {n i : Nat} (h : n ≤ i) : posFrom f n i = [] := by
 unfold posFrom
 rw [List.drop_eq_nil_of_le (by simpa using h)]; rfl
theorem posFrom_step (f : Nat → Bool) {n i : Nat} (h : i < n) : posFrom f n i = (if f i = true then [(i : Int)] else []) ++ posFrom f n (i + 1) := by
 unfold posFrom
 rw [List.drop_eq_getElem_cons (by simpa using h), List.getElem_range, List.filter_cons]
 by_cases c : f i = true
 ·rw [if_pos c, if_pos c]; rfl
 ·rw [if_neg c, if_neg c]; rfl
theorem posL_length (f : Nat → Bool) (n : Nat) : (posL f n).length = cnt f n := by
 unfold posL posFrom cnt
 rw [List.length_map, List.drop_zero, List.countP_eq_length_filter]
theorem posL_le (f : Nat → Bool) (n : Nat) : (posL f n).length ≤ n := by rw [posL_length]; exact cnt_le _ _
theorem mem_posL {f : Nat → Bool} {n : Nat} {x : Int} : x ∈ posL f n ↔ ∃ b : Nat, b < n ∧ f b = true ∧ x = (b : Int) := by
 unfold posL posFrom
 simp only [List.drop_zero, List.mem_map, List.mem_filter, List.mem_range]
 constructor
 ·rintro ⟨b, ⟨h1, h2⟩, rfl⟩; exact ⟨b, h1, h2, rfl⟩
 ·rintro ⟨b, h1, h2, rfl⟩; exact ⟨b, ⟨h1, h2⟩, rfl⟩
end Go.Proofs.YtedfcbbklhfgcaaDoor.Plain

/- The numbers of the bits that are set. No condition. -/
-- over bits_TrailingZeros16.f
namespace Go.Proofs.YtedfcbbklhfgcaaDoor.Plain
open Go.RowKit Go.Proofs.YtedfcbbklhfgcaaDoorW.PrintWords Go.Proofs.YtedfcbbklhfgcaaDoorW.PrintLast
set_option linter.unusedVariables false
open Q

theorem tz_low : ∀ (k m i : Nat), i < k → m.testBit i = true → (∀ j, j < i → m.testBit j = false) → tz k m = i
 | 0, _, _, h, _, _ => by omega
 | k + 1, m, i, h, h1, h2 => by
  unfold tz
  cases i with
  | zero =>
   rw [Nat.testBit_zero, decide_eq_true_eq] at h1
   rw [if_pos h1]
  | succ i =>
   have h0 := h2 0 (by omega)
   rw [Nat.testBit_zero, decide_eq_false_iff_not] at h0
   rw [if_neg h0, tz_low k (m / 2) i (by omega) (by rw [← Nat.testBit_succ]; exact h1) (fun j hj => by rw [← Nat.testBit_succ]; exact h2 (j + 1) (by omega))]

theorem clear_low {m t q : Nat} (h : m = 2 ^ t * (2 * q + 1)) (j : Nat) : (m &&& (m - 1)).testBit j = (m.testBit j && decide (j ≠ t)) := by
 have hp : 0 < 2 ^ t := Nat.two_pow_pos t
 have hm : m - 1 = 2 ^ t * (2 * q) + (2 ^ t - 1) := by rw [h, Nat.mul_add, Nat.mul_one]; omega
 rw [Nat.testBit_and, hm, Nat.testBit_two_pow_mul_add _ (by omega : 2 ^ t - 1 < 2 ^ t), Nat.testBit_two_pow_sub_one, h, Nat.testBit_two_pow_mul]
 by_cases c1 : j < t
 ·rw [if_pos c1, decide_eq_false (show ¬ j ≥ t by omega)]; simp
 ·rw [if_neg c1]
  by_cases c2 : j = t
  ·subst c2; simp
  ·obtain ⟨d, rfl⟩ : ∃ d, j = t + 1 + d := ⟨j - t - 1, by omega⟩
   rw [show t + 1 + d - t = d + 1 by omega]
   have a1 : (2 * q + 1).testBit (d + 1) = q.testBit d := by rw [Nat.testBit_succ, show (2 * q + 1) / 2 = q by omega]
   have a2 : (2 * q).testBit (d + 1) = q.testBit d := by rw [Nat.testBit_succ, show 2 * q / 2 = q by omega]
   rw [a1, a2, decide_eq_true (show t + 1 + d ≠ t by omega)]
   cases q.testBit d <;> simp

def restF (f : Nat → Bool) (i : Nat) : Nat → Bool := fun b => decide (i ≤ b) && f b
theorem rest_no {f : Nat → Bool} {i : Nat} (h : f i = false) : restF f i = restF f (i + 1) := by
 funext b
 unfold restF
 by_cases c : b = i
 ·subst c; rw [h]; simp
 ·rw [show decide (i ≤ b) = decide (i + 1 ≤ b) from decide_eq_decide.2 (by omega)]
theorem rest_yes {f : Nat → Bool} {n i : Nat} (hi : i < n) (hn : n ≤ 16) (h : f i = true) : tz 16 (maskOf (restF f i) n) = i ∧ maskOf (restF f i) n &&& (maskOf (restF f i) n - 1) = maskOf (restF f (i + 1)) n ∧ 0 < maskOf (restF f i) n := by
 have hb : (maskOf (restF f i) n).testBit i = true := by rw [maskOf_bit]; simp [restF, hi, h]
 have hl : ∀ j, j < i → (maskOf (restF f i) n).testBit j = false := by
  intro j hj
  rw [maskOf_bit]; simp [restF, show ¬ i ≤ j by omega]
 have h0 : 0 < maskOf (restF f i) n := by
  rcases Nat.eq_zero_or_pos (maskOf (restF f i) n) with c | c
  ·rw [c, Nat.zero_testBit] at hb; cases hb
  ·exact c
 have ht := tz_low 16 _ i (by omega) hb hl
 obtain ⟨t, q, _, h2, h3⟩ := tz_bit 16 (maskOf (restF f i) n) h0 (mask16 hn)
 have e : t = i := by rw [← h2]; exact ht
 subst e
 refine ⟨ht, ?_, h0⟩
 apply Nat.eq_of_testBit_eq
 intro j
 rw [clear_low h3, maskOf_bit, maskOf_bit]
 unfold restF
 by_cases c : j = t
 ·rw [c, decide_eq_false (show ¬ t + 1 ≤ t by omega), decide_eq_false (show ¬ t ≠ t by simp)]; simp
 ·rw [show decide (t ≤ j) = decide (t + 1 ≤ j) from decide_eq_decide.2 (by omega), decide_eq_true c, Bool.and_true]
end Go.Proofs.YtedfcbbklhfgcaaDoor.Plain

/- Walks counted step by step, in both tables. No condition. -/
namespace Go.Proofs.YtedfcbbklhfgcaaDoor.Plain
open Go.RowKit Go.Proofs.YtedfcbbklhfgcaaDoorW.PrintWords Go.Proofs.YtedfcbbklhfgcaaDoorW.PrintLast
set_option linter.unusedVariables false
open Q

theorem listed_ev {n : Nat} (hn : n ≤ 16) (f : Nat → Bool) : Ev (fun k => impl_listed.f k ((maskOf f n : Nat) : Int)) (posL f n) := by
 have key : ∀ d i (out : List Int), n - i = d → i ≤ n → out.length ≤ i → Ev (fun k => impl_listed.l0 k ((maskOf (restF f i) n : Nat) : Int) out) (out ++ posFrom f n i) := by
  intro d
  induction d with
  | zero =>
   intro i out hd hi _
   obtain rfl : i = n := by omega
   have hz : maskOf (restF f i) i = 0 := by
    apply Nat.eq_of_testBit_eq
    intro j
    rw [maskOf_bit, Nat.zero_testBit]
    by_cases c : j < i
    ·simp [restF, show ¬ i ≤ j by omega]
    ·simp [c]
   rw [hz, posFrom_end _ (Nat.le_refl _), List.append_nil]
   exact Ev.step (f := fun _ => some out) (fun k => by simp only [impl_listed.l0]; rw [if_neg (by omega)]) (Ev.now _)
  | succ d ih =>
   intro i out hd hi ho
   have hi' : i < n := by omega
   rw [posFrom_step f hi']
   by_cases c : f i = true
   ·obtain ⟨e1, e2, e3⟩ := rest_yes hi' hn c
    have hlt := mask16 (f := restF f i) hn
    have e4 : bits_TrailingZeros16.f ((maskOf (restF f i) n : Nat) : Int) = some (i : Int) := by
     unfold bits_TrailingZeros16.f
     rw [if_pos (by omega), if_neg (by omega), Int.toNat_natCast, e1]
    have e5 : IntKind.u16.wrap (((maskOf (restF f i) n : Nat) : Int) - 1) = ((maskOf (restF f i) n - 1 : Nat) : Int) := by
     rw [show ((maskOf (restF f i) n : Nat) : Int) - 1 = ((maskOf (restF f i) n - 1 : Nat) : Int) by omega]
     exact wraps_u16 _ (by omega) (by omega)
    rw [if_pos c, ← List.append_assoc]
    refine Ev.step (f := fun k => impl_listed.l0 k ((maskOf (restF f (i + 1)) n : Nat) : Int) (out ++ [(i : Int)])) (fun k => ?_) (ih (i + 1) _ (by omega) (by omega) (by simp; omega))
    simp only [impl_listed.l0]
    rw [if_pos (by omega), e4, Option.bind_some, if_pos (by omega), e5, and16 hlt (by omega), e2]
   ·have c' : f i = false := by simpa using c
    rw [if_neg c, List.nil_append, rest_no c']
    exact ih (i + 1) out (by omega) (by omega) (by omega)
 have e : maskOf f n = maskOf (restF f 0) n := maskOf_congr (fun b _ => by simp [restF])
 rw [e]
 exact key n 0 [] (by omega) (by omega) (by simp)

theorem paFriends_ev {n : Nat} (hn : n ≤ 12) (f : Nat → Nat → Bool) {a : Nat} (ha : a < n) : Ev (fun k => spec_paFriends.f k (tabB n f) (a : Int)) (posL (f a) n) := by
 unfold spec_paFriends.f
 refine ev_if (fun _ => ?_) (fun c => absurd (by omega) c)
 refine ev_if (fun _ => ?_) (fun c => absurd (by rw [tabB_length]; omega) c)
 rw [tabB_get ha]
 have key : ∀ d i (out : List Int), n - i = d → i ≤ n → out.length ≤ i → Ev (fun k => spec_paFriends.l0 k out (rowB n (f a)) ((rowB n (f a)).length : Int) (i : Int)) (out ++ posFrom (f a) n i) := by
  intro d
  induction d with
  | zero =>
   intro i out hd hi _
   obtain rfl : i = n := by omega
   rw [posFrom_end _ (Nat.le_refl _), List.append_nil]
   exact Ev.step (f := fun _ => some out) (fun k => by simp only [spec_paFriends.l0]; rw [if_neg (by rw [rowB_length]; omega)]) (Ev.now _)
  | succ d ih =>
   intro i out hd hi ho
   have hi' : i < n := by omega
   have hr : rdOf false (rowB n (f a)) (i : Int) = f a i := by rw [rdOfB_at (by rw [rowB_length]; exact hi'), rowB_get]
   rw [posFrom_step (f a) hi']
   refine Ev.step (f := fun k => if f a i = true then spec_paFriends.l0 k (out ++ [(i : Int)]) (rowB n (f a)) ((rowB n (f a)).length : Int) ((i + 1 : Nat) : Int) else spec_paFriends.l0 k out (rowB n (f a)) ((rowB n (f a)).length : Int) ((i + 1 : Nat) : Int)) (fun k => ?_) ?_
   ·simp only [spec_paFriends.l0]
    rw [if_pos (by rw [rowB_length]; omega), if_pos (by omega), if_pos (by rw [rowB_length]; omega), hr, if_pos (show out.length < 17592186044416 by omega), succ_cast hi' (by omega)]
   ·refine ev_if (fun c => ?_) (fun c => ?_)
    ·rw [if_pos c, ← List.append_assoc]
     exact ih (i + 1) _ (by omega) (by omega) (by simp; omega)
    ·rw [if_neg c, List.nil_append]
     exact ih (i + 1) out (by omega) (by omega) (by omega)
 exact key n 0 [] (by omega) (by omega) (by simp)

theorem posL_bounds {f : Nat → Bool} {n : Nat} {x : Int} (h : x ∈ posL f n) : 0 ≤ x ∧ x < (n : Int) := by
 obtain ⟨b, h1, _, rfl⟩ := mem_posL.1 h
 omega

end Go.Proofs.YtedfcbbklhfgcaaDoor.Plain

/- Least lengths of walks from one person: what fixes them, by layers and by a queue. No condition. -/
namespace Go.Proofs.YtedfcbbklhfgcaaDoor.Plain
open Go.RowKit Go.Proofs.YtedfcbbklhfgcaaDoorW.PrintWords Go.Proofs.YtedfcbbklhfgcaaDoorW.PrintLast
set_option linter.unusedVariables false
open Q

/-- What the distances from a are: -1 where there is no walk. -/
structure IsDist (n : Nat) (f : Nat → Nat → Bool) (a : Nat) (o : Nat → Int) : Prop where
 start : o a = 0
 low : ∀ b, b < n → -1 ≤ o b
 zero : ∀ b, b < n → o b = 0 → b = a
 back : ∀ b, b < n → 1 ≤ o b → ∃ c, c < n ∧ f c b = true ∧ o c = o b - 1
 on : ∀ c b, c < n → b < n → 0 ≤ o c → f c b = true → 0 ≤ o b ∧ o b ≤ o c + 1
theorem IsDist.le {n : Nat} {f : Nat → Nat → Bool} {a : Nat} {o p : Nat → Int} (ha : a < n) (ho : IsDist n f a o) (hp : IsDist n f a p) : ∀ (v : Nat) b, b < n → o b = (v : Int) → 0 ≤ p b ∧ p b ≤ o b
 | 0, b, hb, e => by
  have := ho.zero b hb (by omega)
  subst this
  rw [hp.start, ho.start]; omega
 | v + 1, b, hb, e => by
  obtain ⟨c, hc, hf, e2⟩ := ho.back b hb (by omega)
  obtain ⟨h1, h2⟩ := IsDist.le ha ho hp v c hc (by omega)
  obtain ⟨h3, h4⟩ := hp.on c b hc hb h1 hf
  exact ⟨h3, by omega⟩
theorem IsDist.unique {n : Nat} {f : Nat → Nat → Bool} {a : Nat} {o p : Nat → Int} (ha : a < n) (ho : IsDist n f a o) (hp : IsDist n f a p) {b : Nat} (hb : b < n) : o b = p b := by
 have l1 := ho.low b hb
 have l2 := hp.low b hb
 by_cases c : 0 ≤ o b
 ·obtain ⟨h1, h2⟩ := IsDist.le ha ho hp (o b).toNat b hb (by omega)
  obtain ⟨h3, h4⟩ := IsDist.le ha hp ho (p b).toNat b hb (by omega)
  omega
 ·by_cases d : 0 ≤ p b
  ·obtain ⟨h3, h4⟩ := IsDist.le ha hp ho (p b).toNat b hb (by omega)
   omega
  ·omega
theorem cnt_mono {f g : Nat → Bool} : ∀ {n : Nat}, (∀ b, b < n → f b = true → g b = true) → cnt f n ≤ cnt g n
 | 0, _ => Nat.le_refl _
 | n + 1, h => by
  have ih := cnt_mono (n := n) (fun b hb => h b (by omega))
  rw [cnt_succ, cnt_succ]
  by_cases c : f n = true
  ·rw [if_pos c, if_pos (h n (by omega) c)]; omega
  ·rw [if_neg c]; split <;> omega
theorem cnt_strict {f g : Nat → Bool} : ∀ {n : Nat}, (∀ b, b < n → f b = true → g b = true) → (∃ b, b < n ∧ f b = false ∧ g b = true) → cnt f n < cnt g n
 | 0, _, ⟨b, hb, _⟩ => by omega
 | n + 1, h, ⟨b, hb, h1, h2⟩ => by
  rw [cnt_succ, cnt_succ]
  by_cases e : b = n
  ·subst e
   have := cnt_mono (n := b) (fun c hc => h c (by omega))
   rw [h1, h2]; simp; omega
  ·have ih := cnt_strict (n := n) (fun b hb => h b (by omega)) ⟨b, by omega, h1, h2⟩
   by_cases c : f n = true
   ·rw [if_pos c, if_pos (h n (by omega) c)]; omega
   ·rw [if_neg c]; split <;> omega

/-- Layers: those seen before, the edge, and the lengths so far. -/
structure Layer (n : Nat) (f : Nat → Nat → Bool) (a : Nat) (far : Nat) (S E : Nat → Bool) (o : Nat → Int) : Prop where
 seen : ∀ b, b < n → (S b = true ↔ 0 ≤ o b)
 low : ∀ b, b < n → -1 ≤ o b
 less : ∀ b, b < n → o b < (far : Int)
 new : ∀ b, b < n → E b = true → S b = false
 first : far = 0 → ∀ b, b < n → (E b = true ↔ b = a)
 start : 0 < far → o a = 0
 zero : ∀ b, b < n → o b = 0 → b = a
 back : ∀ b, b < n → 1 ≤ o b → ∃ c, c < n ∧ f c b = true ∧ o c = o b - 1
 edge : 0 < far → ∀ b, b < n → E b = true → ∃ c, c < n ∧ f c b = true ∧ o c = (far : Int) - 1
 on : ∀ c b, c < n → b < n → 0 ≤ o c → f c b = true → (0 ≤ o b ∧ o b ≤ o c + 1) ∨ (E b = true ∧ o c + 1 = (far : Int))

theorem Layer.done {n far : Nat} {f : Nat → Nat → Bool} {a : Nat} {S E : Nat → Bool} {o : Nat → Int} (ha : a < n) (h : Layer n f a far S E o) (he : ∀ b, b < n → E b = false) : IsDist n f a o := by
 have hf : 0 < far := by
  rcases Nat.eq_zero_or_pos far with c | c
  ·have := (h.first c a ha).2 rfl
   rw [he a ha] at this; cases this
  ·exact c
 refine ⟨h.start hf, h.low, h.zero, h.back, fun c b hc hb h1 h2 => ?_⟩
 rcases h.on c b hc hb h1 h2 with q | ⟨q, _⟩
 ·exact q
 ·rw [he b hb] at q; cases q

theorem Layer.next {n far : Nat} {f : Nat → Nat → Bool} {a : Nat} {S E S' E' : Nat → Bool} {o o' : Nat → Int} (ha : a < n) (h : Layer n f a far S E o)
  (hS : ∀ b, b < n → S' b = (S b || E b)) (ho : ∀ b, b < n → o' b = if E b = true then (far : Int) else o b)
  (hE : ∀ b, b < n → (E' b = true ↔ (∃ c, c < n ∧ E c = true ∧ f c b = true) ∧ S' b = false)) : Layer n f a (far + 1) S' E' o' := by
 have hoE : ∀ b, b < n → E b = true → o' b = (far : Int) := fun b hb e => by rw [ho b hb, if_pos e]
 have hoN : ∀ b, b < n → ¬ E b = true → o' b = o b := fun b hb e => by rw [ho b hb, if_neg e]
 have hoS : ∀ b, b < n → 0 ≤ o b → o' b = o b := fun b hb e => by
  apply hoN b hb
  intro q
  have := h.new b hb q
  rw [(h.seen b hb).2 e] at this; cases this
 constructor
 ·intro b hb
  rw [hS b hb, Bool.or_eq_true, h.seen b hb]
  by_cases e : E b = true
  ·rw [hoE b hb e]; constructor
   ·intro _; omega
   ·intro _; exact Or.inr e
  ·rw [hoN b hb e]; constructor
   ·rintro (q | q)
    ·exact q
    ·exact absurd q e
   ·intro q; exact Or.inl q
 ·intro b hb
  by_cases e : E b = true
  ·rw [hoE b hb e]; omega
  ·rw [hoN b hb e]; exact h.low b hb
 ·intro b hb
  by_cases e : E b = true
  ·rw [hoE b hb e]; omega
  ·rw [hoN b hb e]; have := h.less b hb; omega
 ·intro b hb q
  exact ((hE b hb).1 q).2
 ·intro q; omega
 ·intro _
  by_cases z : far = 0
  ·rw [hoE a ha ((h.first z a ha).2 rfl), z]; rfl
  ·rw [hoS a ha (by rw [h.start (by omega)]; omega)]; exact h.start (by omega)
 ·intro b hb q
  by_cases e : E b = true
  ·rw [hoE b hb e] at q
   exact (h.first (by omega) b hb).1 e
  ·rw [hoN b hb e] at q; exact h.zero b hb q
 ·intro b hb q
  by_cases e : E b = true
  ·rw [hoE b hb e] at q ⊢
   obtain ⟨c, h1, h2, h3⟩ := h.edge (by omega) b hb e
   exact ⟨c, h1, h2, by rw [hoS c h1 (by omega)]; exact h3⟩
  ·rw [hoN b hb e] at q ⊢
   obtain ⟨c, h1, h2, h3⟩ := h.back b hb q
   exact ⟨c, h1, h2, by rw [hoS c h1 (by omega)]; exact h3⟩
 ·intro _ b hb q
  obtain ⟨⟨c, h1, h2, h3⟩, _⟩ := (hE b hb).1 q
  exact ⟨c, h1, h3, by rw [hoE c h1 h2]; omega⟩
 ·intro c b hc hb q hf
  by_cases e : E c = true
  ·rw [hoE c hc e]
   cases s : S' b with
   | false => exact Or.inr ⟨(hE b hb).2 ⟨⟨c, hc, e, hf⟩, s⟩, by omega⟩
   | true =>
    left
    rw [hS b hb, Bool.or_eq_true] at s
    by_cases eb : E b = true
    ·rw [hoE b hb eb]; omega
    ·rw [hoN b hb eb]
     have sb := s.resolve_right eb
     have := (h.seen b hb).1 sb
     have := h.less b hb
     omega
  ·rw [hoN c hc e] at q ⊢
   left
   rcases h.on c b hc hb q hf with ⟨q1, q2⟩ | ⟨q1, q2⟩
   ·rw [hoS b hb q1]; exact ⟨q1, q2⟩
   ·rw [hoE b hb q1]; omega

theorem Layer.begin {n : Nat} {f : Nat → Nat → Bool} {a : Nat} {S E : Nat → Bool} {o : Nat → Int} (hS : ∀ b, b < n → S b = false) (hE : ∀ b, b < n → (E b = true ↔ b = a)) (ho : ∀ b, b < n → o b = -1) : Layer n f a 0 S E o := by
 constructor
 ·intro b hb; rw [hS b hb, ho b hb]; simp
 ·intro b hb; rw [ho b hb]; omega
 ·intro b hb; rw [ho b hb]; omega
 ·intro b hb _; exact hS b hb
 ·intro _; exact hE
 ·intro q; omega
 ·intro b hb q; rw [ho b hb] at q; omega
 ·intro b hb q; rw [ho b hb] at q; omega
 ·intro q; omega
 ·intro c b hc hb q; rw [ho c hc] at q; omega

/-- A queue of those seen, of whom the first k are done. -/
structure Queue (n : Nat) (f : Nat → Nat → Bool) (a k : Nat) (q : List Int) (o : Nat → Int) : Prop where
 many : q.length = cnt (fun b => decide (0 ≤ o b)) n
 mem : ∀ b : Nat, b < n → ((b : Int) ∈ q ↔ 0 ≤ o b)
 all : ∀ x ∈ q, 0 ≤ x ∧ x < (n : Int)
 low : ∀ b, b < n → -1 ≤ o b
 start : o a = 0
 zero : ∀ b, b < n → o b = 0 → b = a
 back : ∀ b, b < n → 1 ≤ o b → ∃ c, c < n ∧ f c b = true ∧ o c = o b - 1
 rise : ∀ i j, (hj : j < q.length) → (hij : i < j) → o q[i].toNat ≤ o q[j].toNat
 top : ∀ i, (hi : i < q.length) → (hk : k < q.length) → o q[i].toNat ≤ o q[k].toNat + 1
 cap : ∀ b, b < n → o b ≤ (q.length : Int)
 done : ∀ i b, (hi : i < q.length) → i < k → b < n → f q[i].toNat b = true → 0 ≤ o b ∧ o b ≤ o q[i].toNat + 1
theorem Queue.le {n a k : Nat} {f : Nat → Nat → Bool} {q : List Int} {o : Nat → Int} (h : Queue n f a k q o) : q.length ≤ n := by
 rw [h.many]; unfold cnt
 have := List.countP_le_length (p := fun b => decide (0 ≤ o b)) (l := List.range n)
 simpa using this
/-- One more is seen, a friend of the one at k. -/
theorem Queue.push {n a k b : Nat} {f : Nat → Nat → Bool} {q : List Int} {o o' : Nat → Int} (ha : a < n) (h : Queue n f a k q o) (hk : k < q.length) (hb : b < n) (hf : f q[k].toNat b = true) (hn : o b < 0)
  (ho : ∀ c, c < n → o' c = if c = b then o q[k].toNat + 1 else o c) : Queue n f a k (q ++ [(b : Int)]) o' := by
 have hm : ∀ i, (hi : i < q.length) → q[i].toNat < n ∧ 0 ≤ o q[i].toNat ∧ ((q[i].toNat : Nat) : Int) = q[i] := fun i hi => by
  have r := h.all q[i] (List.getElem_mem _)
  exact ⟨by omega, (h.mem q[i].toNat (by omega)).1 (by rw [Int.toNat_of_nonneg r.1]; exact List.getElem_mem _), by omega⟩
 have hob : o' b = o q[k].toNat + 1 := by rw [ho b hb, if_pos rfl]
 have hos : ∀ c, c < n → 0 ≤ o c → o' c = o c := fun c hc e => by
  rw [ho c hc, if_neg]; intro z; subst z; omega
 have hoq : ∀ i, (hi : i < q.length) → o' q[i].toNat = o q[i].toNat := fun i hi => hos _ (hm i hi).1 (hm i hi).2.1
 have hk0 := (hm k hk).2.1
 have hsgn : ∀ c, c < n → (0 ≤ o' c ↔ 0 ≤ o c ∨ c = b) := fun c hc => by
  rw [ho c hc]
  by_cases e : c = b
  ·rw [if_pos e]; constructor
   ·intro _; exact Or.inr e
   ·intro _; omega
  ·rw [if_neg e]; constructor
   ·intro z; exact Or.inl z
   ·rintro (z | z)
    ·exact z
    ·exact absurd z e
 have hlast : ∀ i, (hi : i < (q ++ [(b : Int)]).length) → (i < q.length) ∨ (i = q.length ∧ (q ++ [(b : Int)])[i] = (b : Int)) := fun i hi => by
  by_cases c : i < q.length
  ·exact Or.inl c
  ·right
   rw [List.length_append] at hi
   have e : i = q.length := by simp at hi; omega
   subst e
   exact ⟨rfl, by simp⟩
 refine ⟨?_, ?_, ?_, ?_, ?_, ?_, ?_, ?_, ?_, ?_, ?_⟩
 ·rw [List.length_append, h.many]
  symm
  refine cnt_one hb (decide_eq_false (by omega)) (fun c hc => ?_)
  rw [Bool.eq_iff_iff]
  simp only [decide_eq_true_eq, Bool.or_eq_true]
  exact hsgn c hc
 ·intro c hc
  rw [hsgn c hc, List.mem_append, h.mem c hc, List.mem_singleton]
  constructor
  ·rintro (z | z)
   ·exact Or.inl z
   ·exact Or.inr (by omega)
  ·rintro (z | z)
   ·exact Or.inl z
   ·exact Or.inr (by omega)
 ·intro x hx
  rcases List.mem_append.1 hx with z | z
  ·exact h.all x z
  ·rw [List.mem_singleton] at z; omega
 ·intro c hc
  rw [ho c hc]
  have := h.low c hc
  split <;> omega
 ·rw [hos a ha (by rw [h.start]; omega)]; exact h.start
 ·intro c hc e
  rw [ho c hc] at e
  by_cases z : c = b
  ·rw [if_pos z] at e; omega
  ·rw [if_neg z] at e; exact h.zero c hc e
 ·intro c hc e
  by_cases z : c = b
  ·subst z
   exact ⟨q[k].toNat, (hm k hk).1, hf, by rw [hoq k hk, hob]; omega⟩
  ·have e2 : o' c = o c := by rw [ho c hc, if_neg z]
   rw [e2] at e ⊢
   obtain ⟨d, h1, h2, h3⟩ := h.back c hc e
   exact ⟨d, h1, h2, by rw [hos d h1 (by omega)]; exact h3⟩
 ·intro i j hj hij
  rcases hlast j hj with c | ⟨c, e⟩
  ·rw [List.getElem_append_left c, List.getElem_append_left (by omega), hoq j c, hoq i (by omega)]
   exact h.rise i j c hij
  ·rw [e, Int.toNat_natCast, hob, List.getElem_append_left (by omega), hoq i (by omega)]
   exact h.top i (by omega) hk
 ·intro i hi hk2
  rw [List.getElem_append_left hk, hoq k hk]
  rcases hlast i hi with c | ⟨c, e⟩
  ·rw [List.getElem_append_left c, hoq i c]; exact h.top i c hk
  ·rw [e, Int.toNat_natCast, hob]; omega
 ·intro c hc
  rw [ho c hc, List.length_append]
  have h1 := h.cap q[k].toNat (hm k hk).1
  have h2 := h.cap c hc
  simp only [List.length_singleton]
  split <;> omega
 ·intro i c hi hik hc hfc
  rw [List.getElem_append_left (by omega)] at hfc ⊢
  rw [hoq i (by omega)]
  obtain ⟨z1, z2⟩ := h.done i c (by omega) hik hc hfc
  rw [hos c hc z1]
  exact ⟨z1, z2⟩
theorem Queue.step {n a k : Nat} {f : Nat → Nat → Bool} {q : List Int} {o : Nat → Int} (h : Queue n f a k q o) (hk : k < q.length) (hd : ∀ b, b < n → f q[k].toNat b = true → 0 ≤ o b) : Queue n f a (k + 1) q o := by
 have hm : ∀ i, (hi : i < q.length) → q[i].toNat < n ∧ 0 ≤ o q[i].toNat ∧ ((q[i].toNat : Nat) : Int) = q[i] := fun i hi => by
  have r := h.all q[i] (List.getElem_mem _)
  exact ⟨by omega, (h.mem q[i].toNat (by omega)).1 (by rw [Int.toNat_of_nonneg r.1]; exact List.getElem_mem _), by omega⟩
 refine ⟨h.many, h.mem, h.all, h.low, h.start, h.zero, h.back, h.rise, fun i hi hk2 => ?_, h.cap, fun i b hi hik hb hf => ?_⟩
 ·have h1 := h.top i hi hk
  have h2 := h.rise k (k + 1) hk2 (by omega)
  omega
 ·by_cases e : i = k
  ·subst e
   have z := hd b hb hf
   obtain ⟨j, hj, e2⟩ := List.getElem_of_mem ((h.mem b hb).2 z)
   have := h.top j hj hi
   rw [e2, Int.toNat_natCast] at this
   exact ⟨z, this⟩
  ·exact h.done i b hi (by omega) hb hf
theorem Queue.begin {n a : Nat} {f : Nat → Nat → Bool} {o : Nat → Int} (ha : a < n) (h0 : o a = 0) (ho : ∀ b, b < n → b ≠ a → o b = -1) : Queue n f a 0 [(a : Int)] o := by
 have hz : ∀ b, b < n → 0 ≤ o b → b = a := fun b hb e => by
  by_cases z : b = a
  ·exact z
  ·have := ho b hb z; omega
 refine ⟨?_, ?_, ?_, ?_, ?_, ?_, ?_, ?_, ?_, ?_, ?_⟩
 ·have hc : cnt (fun _ => false) n = 0 := by unfold cnt; simp
  have := cnt_one (f := fun _ => false) (g := fun b => decide (0 ≤ o b)) (n := n) ha rfl (fun b hb => by
   rw [Bool.eq_iff_iff]
   simp only [decide_eq_true_eq, Bool.or_eq_true]
   constructor
   ·intro e; exact Or.inr (hz b hb e)
   ·rintro (z | z)
    ·cases z
    ·subst z; omega)
  rw [this, hc]; rfl
 ·intro b hb
  rw [List.mem_singleton]
  constructor
  ·intro e
   have : b = a := by omega
   subst this; omega
  ·intro e; rw [hz b hb e]
 ·intro x hx
  rw [List.mem_singleton] at hx; omega
 ·intro b hb
  by_cases z : b = a
  ·subst z; omega
  ·rw [ho b hb z]; omega
 ·exact h0
 ·intro b hb e; exact hz b hb (by omega)
 ·intro b hb e
  have := hz b hb (by omega)
  subst this; omega
 ·intro i j hj hij
  simp at hj; omega
 ·intro i hi _
  have : i = 0 := by simp at hi; omega
  subst this
  simp; omega
 ·intro b hb
  rw [List.length_singleton]
  by_cases z : b = a
  ·subst z; omega
  ·rw [ho b hb z]; omega
 ·intro i b hi hik; omega
end Go.Proofs.YtedfcbbklhfgcaaDoor.Plain

/- The least lengths of walks from one person, in both tables. No condition. -/
namespace Go.Proofs.YtedfcbbklhfgcaaDoor.Plain
open Go.RowKit Go.Proofs.YtedfcbbklhfgcaaDoorW.PrintWords Go.Proofs.YtedfcbbklhfgcaaDoorW.PrintLast
set_option linter.unusedVariables false
open Q

theorem rd_set {l : List Int} {i : Nat} (v : Int) {b : Nat} (hb : b < l.length) : rd (l.set i v) (b : Int) = if b = i then v else rd l (b : Int) := by
 rw [rd_at (by rw [List.length_set]; exact hb), List.getElem_set, rd_at hb]
 by_cases e : i = b
 ·rw [if_pos e, if_pos e.symm]
 ·rw [if_neg e, if_neg (fun q => e q.symm)]
theorem rd_replicate {n : Nat} (v : Int) {b : Nat} (hb : b < n) : rd (List.replicate n v) (b : Int) = v := by
 rw [rd_at (by rw [List.length_replicate]; exact hb), List.getElem_replicate]
theorem andNot16 (f g : Nat → Bool) {n : Nat} (hn : n ≤ 16) : Go.bits .andNot .u16 ((maskOf f n : Nat) : Int) ((maskOf g n : Nat) : Int) = ((maskOf (fun b => f b && !g b) n : Nat) : Int) := by
 have ha := mask16 (f := f) hn
 have hb := mask16 (f := g) hn
 have e : (BitVec.ofNat 16 (maskOf f n) &&& ~~~BitVec.ofNat 16 (maskOf g n)).toNat = maskOf (fun b => f b && !g b) n := by
  apply Nat.eq_of_testBit_eq
  intro j
  rw [BitVec.testBit_toNat, BitVec.getLsbD_and, BitVec.getLsbD_not, BitVec.getLsbD_ofNat, BitVec.getLsbD_ofNat, maskOf_bit, maskOf_bit, maskOf_bit]
  by_cases c : j < n
  ·have c2 : j < 16 := by omega
   simp [c, c2]
  ·simp [c]
 show IntKind.u16.wrap (((BitVec.ofInt 16 ((maskOf f n : Nat) : Int) &&& ~~~BitVec.ofInt 16 ((maskOf g n : Nat) : Int)).toNat : Nat) : Int) = _
 rw [BitVec.ofInt_natCast, BitVec.ofInt_natCast, e]
 have := mask16 (f := fun b => f b && !g b) hn
 exact wraps_u16 _ (by omega) (by omega)
theorem or16m (f g : Nat → Bool) {n : Nat} (hn : n ≤ 16) : Go.bits .or .u16 ((maskOf f n : Nat) : Int) ((maskOf g n : Nat) : Int) = ((maskOf (fun b => f b || g b) n : Nat) : Int) := by
 rw [or16 (mask16 hn) (mask16 hn), mask_or]
theorem mask_zero {f : Nat → Bool} {n : Nat} : maskOf f n = 0 ↔ ∀ b, b < n → f b = false := by
 constructor
 ·intro h b hb
  have q := maskOf_bit f n b
  rw [h, Nat.zero_testBit] at q
  simpa [hb] using q.symm
 ·intro h
  apply Nat.eq_of_testBit_eq
  intro j
  rw [maskOf_bit, Nat.zero_testBit]
  by_cases c : j < n
  ·rw [h j c]; simp
  ·simp [c]

/-- One number set at some places. -/
def setAll (v : Int) (l L : List Int) : List Int := l.foldl (fun o c => o.set c.toNat v) L
theorem setAll_length (v : Int) : ∀ (l L : List Int), (setAll v l L).length = L.length
 | [], L => rfl
 | c :: l, L => by
  show (setAll v l (L.set c.toNat v)).length = _
  rw [setAll_length v l, List.length_set]
theorem setAll_take (v : Int) (l L : List Int) {i : Nat} (h : i < l.length) : setAll v (l.take (i + 1)) L = (setAll v (l.take i) L).set (l[i]).toNat v := by
 rw [List.take_succ_eq_append_getElem h]
 unfold setAll
 rw [List.foldl_append]; rfl
theorem setAll_rd (v : Int) {b : Nat} : ∀ (l L : List Int), (∀ x ∈ l, 0 ≤ x) → b < L.length → rd (setAll v l L) (b : Int) = if (b : Int) ∈ l then v else rd L (b : Int)
 | [], L, _, _ => by rw [if_neg (by simp)]; rfl
 | c :: l, L, h, hb => by
  show rd (setAll v l (L.set c.toNat v)) (b : Int) = _
  rw [setAll_rd v l (L.set c.toNat v) (fun x hx => h x (by simp [hx])) (by rw [List.length_set]; exact hb), rd_set v hb]
  have hc := h c (by simp)
  by_cases m : (b : Int) ∈ l
  ·rw [if_pos m, if_pos (by simp [m])]
  ·rw [if_neg m]
   by_cases e : b = c.toNat
   ·have e2 : (b : Int) = c := by omega
    rw [if_pos e, if_pos (by rw [e2]; simp)]
   ·rw [if_neg e, if_neg]
    intro q
    rcases List.mem_cons.1 q with q | q
    ·omega
    ·exact m q
/-- The friends of some people. -/
def nearL (f : Nat → Nat → Bool) (l : List Int) (b : Nat) : Bool := l.any fun c => f c.toNat b
theorem nearL_take (f : Nat → Nat → Bool) (l : List Int) {i : Nat} (h : i < l.length) : nearL f (l.take (i + 1)) = fun b => nearL f (l.take i) b || f (l[i]).toNat b := by
 funext b
 unfold nearL
 rw [List.take_succ_eq_append_getElem h, List.any_append]
 simp

theorem distI_from {n : Nat} (hn : n ≤ 12) (f : Nat → Nat → Bool) {a : Nat} (ha : a < n) : ∀ (d far : Nat) (S E : Nat → Bool) (L : List Int), L.length = n → Layer n f a far S E (fun b => rd L (b : Int)) → far ≤ cnt S n → n - cnt S n ≤ d →
  ∃ R : List Int, R.length = n ∧ IsDist n f a (fun b => rd R (b : Int)) ∧ Ev (fun k => impl_table_distances.l0 k (tabF n f) L ((maskOf S n : Nat) : Int) ((maskOf E n : Nat) : Int) (far : Int)) R := by
 intro d
 induction d with
 | zero =>
  intro far S E L hL h hfar hd
  have hS : ∀ b, b < n → S b = true := by
   intro b hb
   cases c : S b with
   | true => rfl
   | false =>
    have := cnt_strict (f := S) (g := fun _ => true) (n := n) (fun _ _ _ => rfl) ⟨b, hb, c, rfl⟩
    have := cnt_le (fun _ => true) n
    omega
  have hE : ∀ b, b < n → E b = false := by
   intro b hb
   cases c : E b with
   | false => rfl
   | true => have := h.new b hb c; rw [hS b hb] at this; cases this
  refine ⟨L, hL, h.done ha hE, ?_⟩
  exact Ev.step (f := fun _ => some L) (fun k => by simp only [impl_table_distances.l0]; rw [mask_zero.2 hE, if_pos (by rfl)]) (Ev.now _)
 | succ d ih =>
  intro far S E L hL h hfar hd
  by_cases hz : maskOf E n = 0
  ·refine ⟨L, hL, h.done ha (mask_zero.1 hz), ?_⟩
   exact Ev.step (f := fun _ => some L) (fun k => by simp only [impl_table_distances.l0]; rw [hz, if_pos (by rfl)]) (Ev.now _)
  ·obtain ⟨e, he, hee⟩ : ∃ e, e < n ∧ E e = true := by
    rcases Classical.em (∃ e, e < n ∧ E e = true) with c | c
    ·exact c
    ·exact absurd (mask_zero.2 (fun b hb => by
      cases q : E b with
      | false => rfl
      | true => exact absurd ⟨b, hb, q⟩ c)) hz
   have hcl := cnt_le S n
   have hmore : cnt S n < cnt (fun b => S b || E b) n := cnt_strict (fun b _ q => by simp [q]) ⟨e, he, h.new e he hee, by simp [hee]⟩
   -- the next layer
   have hlist := listed_ev (n := n) (by omega) E
   have hbd : ∀ x ∈ posL E n, 0 ≤ x ∧ x < (n : Int) := fun x hx => posL_bounds hx
   have hpl := posL_le E n
   have hmem : ∀ b : Nat, b < n → ((b : Int) ∈ posL E n ↔ E b = true) := fun b hb => by
    rw [mem_posL]
    constructor
    ·rintro ⟨c, _, h2, e⟩
     have : b = c := by omega
     subst this; exact h2
    ·intro q; exact ⟨b, hb, q, rfl⟩
   have hL2 : (setAll (far : Int) (posL E n) L).length = n := by rw [setAll_length]; exact hL
   have hnext : Layer n f a (far + 1) (fun b => S b || E b) (fun b => nearL f (posL E n) b && !(S b || E b)) (fun b => rd (setAll (far : Int) (posL E n) L) (b : Int)) := by
    refine h.next ha (fun b _ => rfl) (fun b hb => ?_) (fun b hb => ?_)
    ·show rd (setAll (far : Int) (posL E n) L) (b : Int) = _
     rw [setAll_rd _ _ _ (fun x hx => (hbd x hx).1) (by rw [hL]; exact hb)]
     by_cases q : E b = true
     ·rw [if_pos ((hmem b hb).2 q), if_pos q]
     ·rw [if_neg (fun z => q ((hmem b hb).1 z)), if_neg q]
    ·simp only [Bool.and_eq_true, Bool.not_eq_true']
     have : nearL f (posL E n) b = true ↔ ∃ c, c < n ∧ E c = true ∧ f c b = true := by
      unfold nearL
      rw [List.any_eq_true]
      constructor
      ·rintro ⟨x, hx, q⟩
       obtain ⟨c, h1, h2, rfl⟩ := mem_posL.1 hx
       exact ⟨c, h1, h2, by simpa using q⟩
      ·rintro ⟨c, h1, h2, h3⟩
       exact ⟨(c : Int), (hmem c h1).2 h2, by simpa using h3⟩
     rw [this]
   obtain ⟨R, hR, hD, hev⟩ := ih (far + 1) _ _ _ hL2 hnext (by omega) (by omega)
   refine ⟨R, hR, hD, ?_⟩
   refine Ev.step (f := fun k => (impl_listed.f k ((maskOf E n : Nat) : Int)).bind fun t => impl_table_distances.l1 k (tabF n f) L (Go.bits .or .u16 ((maskOf S n : Nat) : Int) ((maskOf E n : Nat) : Int)) (far : Int) 0 t (t.length : Int) 0) (fun k => by
    simp only [impl_table_distances.l0]; rw [if_neg (by omega)]) ?_
   refine Ev.bind hlist ?_
   rw [or16m S E (by omega)]
   generalize hs : posL E n = s at hbd hpl hev
   have q1 := ev_up (n := s.length) (loop := fun k j => impl_table_distances.l1 k (tabF n f) (setAll (far : Int) (s.take j) L) ((maskOf (fun b => S b || E b) n : Nat) : Int) (far : Int) ((maskOf (nearL f (s.take j)) n : Nat) : Int) s (s.length : Int) (j : Int)) (r := fun _ => R)
    (Ev.step (f := fun k => impl_table_distances.l0 k (tabF n f) (setAll (far : Int) s L) ((maskOf (fun b => S b || E b) n : Nat) : Int) ((maskOf (fun b => nearL f s b && !(S b || E b)) n : Nat) : Int) ((far + 1 : Nat) : Int)) (fun k => by
     simp only [impl_table_distances.l1]
     rw [if_neg (by omega), List.take_length, andNot16 _ _ (by omega), wrap_id (by omega) (by omega)]; rfl) hev)
    (fun j hj ih2 => by
     have hx := hbd s[j] (List.getElem_mem hj)
     have hl : (setAll (far : Int) (s.take j) L).length = n := by rw [setAll_length]; exact hL
     have ht : rd (tabF n f) s[j] = ((maskOf (f s[j].toNat) n : Nat) : Int) := by
      have := tabF_get (n := n) (f := f) (a := s[j].toNat) (by omega)
      rw [Int.toNat_of_nonneg hx.1] at this; exact this
     refine Ev.step (f := fun k => impl_table_distances.l1 k (tabF n f) (setAll (far : Int) (s.take (j + 1)) L) ((maskOf (fun b => S b || E b) n : Nat) : Int) (far : Int) ((maskOf (nearL f (s.take (j + 1))) n : Nat) : Int) s (s.length : Int) ((j + 1 : Nat) : Int)) (fun k => ?_) ih2
     simp only [impl_table_distances.l1]
     rw [if_pos (by omega), if_pos (by omega), if_pos (by omega), rd_at hj, if_pos (by omega), if_pos (by omega), if_pos (by rw [tabF_length]; omega), ht, or16m _ _ (by omega), setAll_take _ _ _ hj, nearL_take f s hj, succ_cast hj (by omega)]) 0 (Nat.zero_le _)
   have e0 : ((maskOf (nearL f (s.take 0)) n : Nat) : Int) = 0 := by
    rw [mask_zero.2 (fun b _ => by rfl)]; rfl
   rw [e0] at q1
   exact q1

theorem distI_ev {n : Nat} (hn : n ≤ 12) (f : Nat → Nat → Bool) {a : Nat} (ha : a < n) : ∃ R : List Int, R.length = n ∧ IsDist n f a (fun b => rd R (b : Int)) ∧ Ev (fun k => impl_table_distances.f k (tabF n f) (a : Int)) R := by
 have h : Layer n f a 0 (fun _ => false) (fun b => decide (b = a)) (fun b => rd (List.replicate n (-1)) (b : Int)) :=
  Layer.begin (fun _ _ => rfl) (fun b _ => by simp) (fun b hb => rd_replicate _ hb)
 obtain ⟨R, h1, h2, h3⟩ := distI_from hn f ha n 0 _ _ _ (by simp) h (Nat.zero_le _) (by omega)
 refine ⟨R, h1, h2, ?_⟩
 have e1 : slices_Repeat_int_int.f [(-1)] ((tabF n f).length : Int) = some (List.replicate n (-1)) := by
  unfold slices_Repeat_int_int.f
  rw [if_pos ⟨rfl, by omega, by rw [tabF_length]; omega⟩, tabF_length, Int.toNat_natCast]; rfl
 refine Ev.congr (f := fun k => impl_table_distances.l0 k (tabF n f) (List.replicate n (-1)) 0 (shl .u16 1 (a : Int)) 0) (fun k => ?_) ?_
 ·unfold impl_table_distances.f
  rw [e1, Option.bind_some, if_pos (by omega)]
 ·have e2 : shl .u16 1 (a : Int) = ((maskOf (fun b => decide (b = a)) n : Nat) : Int) := by rw [shl16 (by omega), mask_one ha]
  have e3 : maskOf (fun _ => false) n = 0 := mask_zero.2 (fun _ _ => rfl)
  rw [e3] at h3
  rw [e2]; exact h3

open Classical in
/-- The distances from a. -/
noncomputable def distL (n : Nat) (f : Nat → Nat → Bool) (a : Nat) : List Int := if h : ∃ R : List Int, R.length = n ∧ IsDist n f a (fun b => rd R (b : Int)) then Classical.choose h else []
theorem distL_of {n : Nat} {f : Nat → Nat → Bool} {a : Nat} (ha : a < n) {R : List Int} (h1 : R.length = n) (h2 : IsDist n f a (fun b => rd R (b : Int))) : distL n f a = R := by
 have h : ∃ R : List Int, R.length = n ∧ IsDist n f a (fun b => rd R (b : Int)) := ⟨R, h1, h2⟩
 have e : distL n f a = Classical.choose h := by unfold distL; rw [dif_pos h]
 obtain ⟨s1, s2⟩ := Classical.choose_spec h
 rw [e]
 apply List.ext_getElem
 ·rw [s1, h1]
 ·intro i i1 i2
  have := IsDist.unique ha s2 h2 (b := i) (by omega)
  rw [← rd_at i1, ← rd_at i2]; exact this
theorem distI_evL {n : Nat} (hn : n ≤ 12) (f : Nat → Nat → Bool) {a : Nat} (ha : a < n) : Ev (fun k => impl_table_distances.f k (tabF n f) (a : Int)) (distL n f a) := by
 obtain ⟨R, h1, h2, h3⟩ := distI_ev hn f ha
 rw [distL_of ha h1 h2]; exact h3
theorem distL_spec {n : Nat} (hn : n ≤ 12) (f : Nat → Nat → Bool) {a : Nat} (ha : a < n) : (distL n f a).length = n ∧ IsDist n f a (fun b => rd (distL n f a) (b : Int)) := by
 obtain ⟨R, h1, h2, _⟩ := distI_ev hn f ha
 rw [distL_of ha h1 h2]; exact ⟨h1, h2⟩
end Go.Proofs.YtedfcbbklhfgcaaDoor.Plain

/- Who hangs together with whom: reaching, the first of a part, tables 0 and 1. No condition. -/
namespace Go.Proofs.YtedfcbbklhfgcaaDoor.Plain
open Go.RowKit Go.Proofs.YtedfcbbklhfgcaaDoorW.PrintWords Go.Proofs.YtedfcbbklhfgcaaDoorW.PrintLast
set_option linter.unusedVariables false
open Q

/-- Is b in all sets of people that have a and the friends of all in it. -/
def Reach (n : Nat) (f : Nat → Nat → Bool) (a b : Nat) : Prop := ∀ S : Nat → Prop, S a → (∀ x y, x < n → y < n → S x → f x y = true → S y) → S b
theorem Reach.refl (n : Nat) (f : Nat → Nat → Bool) (a : Nat) : Reach n f a a := fun _ h _ => h
theorem Reach.step {n : Nat} {f : Nat → Nat → Bool} {a b c : Nat} (h : Reach n f a b) (hb : b < n) (hc : c < n) (hf : f b c = true) : Reach n f a c := fun S h1 h2 => h2 b c hb hc (h S h1 h2) hf
theorem Reach.trans {n : Nat} {f : Nat → Nat → Bool} {a b c : Nat} (h1 : Reach n f a b) (h2 : Reach n f b c) : Reach n f a c :=
 h2 (fun x => Reach n f a x) h1 (fun _ _ hx hy h hf => h.step hx hy hf)
theorem Reach.symm {n : Nat} {f : Nat → Nat → Bool} (hs : ∀ a b, f a b = f b a) {a b : Nat} (h : Reach n f a b) : Reach n f b a :=
 h (fun x => Reach n f x a) (Reach.refl n f a) (fun x y hx hy hx2 hf => Reach.trans (Reach.step (Reach.refl n f y) hy hx (by rw [hs]; exact hf)) hx2)
/-- The least of a part. -/
def IsFirst (n : Nat) (f : Nat → Nat → Bool) (x : Nat) : Prop := x < n ∧ ∀ y, y < n → Reach n f y x → x ≤ y
theorem IsFirst.same {n : Nat} {f : Nat → Nat → Bool} (hs : ∀ a b, f a b = f b a) {x y : Nat} (hx : IsFirst n f x) (hy : IsFirst n f y) (h : Reach n f x y) : x = y := by
 have h1 := hx.2 y hy.1 (h.symm hs)
 have h2 := hy.2 x hx.1 h
 omega
/-- One of the parts has a. -/
def Covered (n : Nat) (f : Nat → Nat → Bool) (ps : List (List Int)) (a : Nat) : Prop := ∃ p ∈ ps, ∃ (x : Nat) (t : List Int), p = (x : Int) :: t ∧ IsFirst n f x ∧ Reach n f x a
structure GoodParts (n : Nat) (f : Nat → Nat → Bool) (ps : List (List Int)) : Prop where
 head : ∀ p ∈ ps, ∃ (x : Nat) (t : List Int), p = (x : Int) :: t ∧ IsFirst n f x
 all : ∀ a, a < n → Covered n f ps a
 len : ps.length ≤ n
theorem Covered.more {n : Nat} {f : Nat → Nat → Bool} {ps qs : List (List Int)} {a : Nat} (h : Covered n f ps a) : Covered n f (ps ++ qs) a := by
 obtain ⟨p, hp, r⟩ := h
 exact ⟨p, List.mem_append_left _ hp, r⟩
theorem Covered.snoc {n : Nat} {f : Nat → Nat → Bool} {ps : List (List Int)} {p : List Int} {a : Nat} : Covered n f (ps ++ [p]) a ↔ Covered n f ps a ∨ ∃ (x : Nat) (t : List Int), p = (x : Int) :: t ∧ IsFirst n f x ∧ Reach n f x a := by
 constructor
 ·rintro ⟨q, hq, r⟩
  rcases List.mem_append.1 hq with z | z
  ·exact Or.inl ⟨q, z, r⟩
  ·rw [List.mem_singleton] at z; subst z; exact Or.inr r
 ·rintro (h | r)
  ·exact h.more
  ·exact ⟨p, by simp, r⟩
theorem Covered.on {n : Nat} {f : Nat → Nat → Bool} {ps : List (List Int)} {a b : Nat} (h : Covered n f ps a) (ha : a < n) (hb : b < n) (hf : f a b = true) : Covered n f ps b := by
 obtain ⟨p, hp, x, t, e, h1, h2⟩ := h
 exact ⟨p, hp, x, t, e, h1, h2.step ha hb hf⟩
/-- All before i are in parts, i is in none: it is the least of its own. -/
theorem first_new {n : Nat} {f : Nat → Nat → Bool} {ps : List (List Int)} {i : Nat} (hi : i < n) (h1 : ∀ b, b < i → Covered n f ps b) (h2 : ¬ Covered n f ps i) : IsFirst n f i := by
 refine ⟨hi, fun y hy hr => ?_⟩
 rcases Nat.lt_or_ge y i with c | c
 ·exfalso
  obtain ⟨p, hp, x, t, e, q1, q2⟩ := h1 y c
  exact h2 ⟨p, hp, x, t, e, q1, q2.trans hr⟩
 ·exact c

/-- Each at 0 or 1, friends at different ones, the least of each part at 0. -/
structure Proper (n : Nat) (f : Nat → Nat → Bool) (c : Nat → Int) : Prop where
 two : ∀ a, a < n → c a = 0 ∨ c a = 1
 ne : ∀ a b, a < n → b < n → f a b = true → c a ≠ c b
 zero : ∀ x, IsFirst n f x → c x = 0
theorem Proper.odd {n : Nat} {f : Nat → Nat → Bool} {c : Nat → Int} (h : Proper n f c) {x : Nat} (hx : IsFirst n f x) {o : Nat → Int} (ho : IsDist n f x o) : ∀ (v : Nat) b, b < n → o b = (v : Int) → c b = ((v % 2 : Nat) : Int)
 | 0, b, hb, e => by
  have := ho.zero b hb (by omega)
  subst this
  rw [h.zero b hx]; rfl
 | v + 1, b, hb, e => by
  obtain ⟨d, hd, hf, e2⟩ := ho.back b hb (by omega)
  have ih := Proper.odd h hx ho v d hd (by omega)
  have h1 := h.two b hb
  have h2 := h.ne d b hd hb hf
  omega
theorem IsDist.reach {n : Nat} {f : Nat → Nat → Bool} {x : Nat} {o : Nat → Int} (ho : IsDist n f x o) : ∀ (v : Nat) b, b < n → o b = (v : Int) → Reach n f x b
 | 0, b, hb, e => by
  have := ho.zero b hb (by omega)
  subst this
  exact Reach.refl n f b
 | v + 1, b, hb, e => by
  obtain ⟨d, hd, hf, e2⟩ := ho.back b hb (by omega)
  exact (IsDist.reach ho v d hd (by omega)).step hd hb hf
theorem IsDist.reached {n : Nat} {f : Nat → Nat → Bool} {x : Nat} {o : Nat → Int} (hx : x < n) (ho : IsDist n f x o) {b : Nat} (h : Reach n f x b) : 0 ≤ o b :=
 (h (fun y => y < n ∧ 0 ≤ o y) ⟨hx, by rw [ho.start]; omega⟩ (fun y z hy hz h hf => ⟨hz, (ho.on y z hy hz h.2 hf).1⟩)).2

open Classical in
/-- What both sides tell of the tables. -/
noncomputable def tellT (n : Nat) (f : Nat → Nat → Bool) : List Int × Bool := if h : ∃ c, Proper n f c then ((List.range n).map (Classical.choose h), true) else ([], false)
theorem tellT_length (n : Nat) (f : Nat → Nat → Bool) : (tellT n f).1.length ≤ n := by
 unfold tellT
 split
 ·simp
 ·simp
/-- Friends are at different ones. -/
def Differ (n : Nat) (f : Nat → Nat → Bool) (L : List Int) : Prop := ∀ a b, a < n → b < n → f a b = true → rd L (a : Int) ≠ rd L (b : Int)
open Classical in
theorem tellT_of {n : Nat} {f : Nat → Nat → Bool} {L : List Int} (hL : L.length = n) (h2 : ∀ b, b < n → rd L (b : Int) = 0 ∨ rd L (b : Int) = 1) (h0 : ∀ x, IsFirst n f x → rd L (x : Int) = 0)
  (hc : ∀ c, Proper n f c → ∀ b, b < n → rd L (b : Int) = c b) : (if Differ n f L then (L, true) else (([] : List Int), false)) = tellT n f := by
 unfold tellT
 by_cases h : ∃ c, Proper n f c
 ·rw [dif_pos h]
  have hp := Classical.choose_spec h
  have e := hc _ hp
  have hd : Differ n f L := fun a b ha hb hf => by rw [e a ha, e b hb]; exact hp.ne a b ha hb hf
  rw [if_pos hd]
  congr 1
  apply List.ext_getElem
  ·simp [hL]
  ·intro i i1 i2
   rw [List.getElem_map, List.getElem_range, ← e i (by omega), rd_at i1]
 ·rw [dif_neg h, if_neg]
  intro d
  exact h ⟨fun b => rd L (b : Int), h2, d, h0⟩
theorem Reach.congr {n : Nat} {f g : Nat → Nat → Bool} (e : ∀ a b, a < n → b < n → f a b = g a b) {a b : Nat} (h : Reach n f a b) : Reach n g a b :=
 fun S h1 h2 => h S h1 (fun x y hx hy hs hf => h2 x y hx hy hs (by rw [← e x y hx hy]; exact hf))
theorem IsFirst.congr {n : Nat} {f g : Nat → Nat → Bool} (e : ∀ a b, a < n → b < n → f a b = g a b) {x : Nat} (h : IsFirst n f x) : IsFirst n g x :=
 ⟨h.1, fun y hy hr => h.2 y hy (Reach.congr (fun a b ha hb => (e a b ha hb).symm) hr)⟩
theorem Proper.congr {n : Nat} {f g : Nat → Nat → Bool} (e : ∀ a b, a < n → b < n → f a b = g a b) {c : Nat → Int} (h : Proper n f c) : Proper n g c :=
 ⟨h.two, fun a b ha hb hg => h.ne a b ha hb (by rw [e a b ha hb]; exact hg), fun x hx => h.zero x (IsFirst.congr (fun a b ha hb => (e a b ha hb).symm) hx)⟩
theorem tellT_congr {n : Nat} {f g : Nat → Nat → Bool} (e : ∀ a b, a < n → b < n → f a b = g a b) : tellT n f = tellT n g := by
 have : Proper n f = Proper n g := funext fun c => propext ⟨Proper.congr e, Proper.congr (fun a b ha hb => (e a b ha hb).symm)⟩
 unfold tellT
 rw [this]
end Go.Proofs.YtedfcbbklhfgcaaDoor.Plain

/- The parts of a party, in both tables: what a law over them needs. No condition. -/
namespace Go.Proofs.YtedfcbbklhfgcaaDoor.Plain
open Go.RowKit Go.Proofs.YtedfcbbklhfgcaaDoorW.PrintWords Go.Proofs.YtedfcbbklhfgcaaDoorW.PrintLast
set_option linter.unusedVariables false
open Q

theorem bit16 (g : Nat → Bool) {n b : Nat} (hn : n ≤ 16) (hb : b < n) : Go.bits .and .u16 (shr .u16 ((maskOf g n : Nat) : Int) (b : Int)) 1 = if g b = true then 1 else 0 := by
 have hm := mask16 (f := g) hn
 have e1 : shr .u16 ((maskOf g n : Nat) : Int) (b : Int) = ((maskOf g n / 2 ^ b : Nat) : Int) := by
  unfold shr
  have h1 : min ((b : Int)).toNat IntKind.u16.bits = b := by
   rw [Int.toNat_natCast]
   exact Nat.min_eq_left (by show b ≤ 16; omega)
  rw [h1]
  simp
 have hlt : maskOf g n / 2 ^ b < 2 ^ 16 := Nat.lt_of_le_of_lt (Nat.div_le_self _ _) hm
 have e2 : Go.bits .and .u16 ((maskOf g n / 2 ^ b : Nat) : Int) 1 = (((maskOf g n / 2 ^ b) % 2 : Nat) : Int) := by
  rw [show (1 : Int) = ((1 : Nat) : Int) by rfl, and16 hlt (by omega), Nat.and_one_is_mod]
 rw [e1, e2]
 have hb2 := maskOf_bit g n b
 rw [Nat.testBit_eq_decide_div_mod_eq, decide_eq_true hb, Bool.true_and] at hb2
 cases q : g b with
 | true => rw [q] at hb2; rw [of_decide_eq_true hb2]; rfl
 | false => rw [q] at hb2; have := of_decide_eq_false hb2; rw [if_neg (by simp)]; omega

/-- One round more: the friends of all are in. -/
def growS (n : Nat) (f : Nat → Nat → Bool) (W : Nat → Bool) : Nat → Bool := fun b => W b || nearL f (posL W n) b
def ownS (n : Nat) (f : Nat → Nat → Bool) (i : Nat) : Nat → Nat → Bool
 | 0 => fun b => decide (b = i)
 | r + 1 => growS n f (ownS n f i r)
theorem growS_iff {n : Nat} {f : Nat → Nat → Bool} {W : Nat → Bool} {b : Nat} : growS n f W b = true ↔ W b = true ∨ ∃ c, c < n ∧ W c = true ∧ f c b = true := by
 unfold growS nearL
 rw [Bool.or_eq_true, List.any_eq_true]
 constructor
 ·rintro (h | ⟨x, hx, h⟩)
  ·exact Or.inl h
  ·obtain ⟨c, h1, h2, rfl⟩ := mem_posL.1 hx
   exact Or.inr ⟨c, h1, h2, by simpa using h⟩
 ·rintro (h | ⟨c, h1, h2, h3⟩)
  ·exact Or.inl h
  ·exact Or.inr ⟨(c : Int), mem_posL.2 ⟨c, h1, h2, rfl⟩, by simpa using h3⟩
theorem ownS_reach {n : Nat} {f : Nat → Nat → Bool} {i : Nat} (hi : i < n) : ∀ r b, b < n → ownS n f i r b = true → Reach n f i b
 | 0, b, hb, h => by
  have : b = i := of_decide_eq_true h
  subst this; exact Reach.refl n f b
 | r + 1, b, hb, h => by
  rcases growS_iff.1 h with h | ⟨c, h1, h2, h3⟩
  ·exact ownS_reach hi r b hb h
  ·exact (ownS_reach hi r c h1 h2).step h1 hb h3
theorem ownS_self (n : Nat) (f : Nat → Nat → Bool) (i : Nat) : ∀ r, ownS n f i r i = true
 | 0 => by simp [ownS]
 | r + 1 => growS_iff.2 (Or.inl (ownS_self n f i r))
def ClosedS (n : Nat) (f : Nat → Nat → Bool) (W : Nat → Bool) : Prop := ∀ c b, c < n → b < n → W c = true → f c b = true → W b = true
theorem ownS_closed {n : Nat} {f : Nat → Nat → Bool} {i : Nat} (hi : i < n) : ∀ r, ClosedS n f (ownS n f i r) ∨ r + 1 ≤ cnt (ownS n f i r) n
 | 0 => by
  right
  have h0 : cnt (fun _ => false) n = 0 := by unfold cnt; simp
  have := cnt_one (f := fun _ => false) (g := ownS n f i 0) (n := n) hi rfl (fun b _ => by simp [ownS])
  omega
 | r + 1 => by
  have grow : ClosedS n f (ownS n f i r) → ClosedS n f (ownS n f i (r + 1)) := by
   intro h c b hc hb h1 h2
   refine growS_iff.2 (Or.inl ?_)
   rcases growS_iff.1 h1 with q | ⟨d, d1, d2, d3⟩
   ·exact h c b hc hb q h2
   ·exact h c b hc hb (h d c d1 hc d2 d3) h2
  rcases ownS_closed hi r with h | h
  ·exact Or.inl (grow h)
  ·by_cases c : ClosedS n f (ownS n f i r)
   ·exact Or.inl (grow c)
   ·right
    have : ∃ x y, x < n ∧ y < n ∧ ownS n f i r x = true ∧ f x y = true ∧ ownS n f i r y = false := by
     rcases Classical.em (∃ x y, x < n ∧ y < n ∧ ownS n f i r x = true ∧ f x y = true ∧ ownS n f i r y = false) with q | q
     ·exact q
     ·exfalso
      apply c
      intro x y hx hy h1 h2
      cases z : ownS n f i r y with
      | true => rfl
      | false => exact absurd ⟨x, y, hx, hy, h1, h2, z⟩ q
    obtain ⟨x, y, hx, hy, h1, h2, h3⟩ := this
    have := cnt_strict (f := ownS n f i r) (g := ownS n f i (r + 1)) (n := n) (fun b _ q => growS_iff.2 (Or.inl q)) ⟨y, hy, h3, growS_iff.2 (Or.inr ⟨x, hx, h1, h2⟩)⟩
    omega
theorem ownS_iff {n : Nat} {f : Nat → Nat → Bool} {i b : Nat} (hi : i < n) (hb : b < n) : ownS n f i n b = true ↔ Reach n f i b := by
 constructor
 ·exact ownS_reach hi n b hb
 ·intro h
  have hc : ClosedS n f (ownS n f i n) := by
   rcases ownS_closed hi n with q | q
   ·exact q
   ·have := cnt_le (ownS n f i n) n; omega
  exact (h (fun y => y < n ∧ ownS n f i n y = true) ⟨hi, ownS_self n f i n⟩ (fun x y hx hy h hf => ⟨hy, hc x y hx hy h.2 hf⟩)).2
theorem posL_head {g : Nat → Bool} {n i : Nat} (hi : i < n) (h1 : g i = true) (h2 : ∀ b, b < i → g b = false) : ∃ t, posL g n = (i : Int) :: t := by
 have key : ∀ d j, i - j = d → j ≤ i → posFrom g n j = posFrom g n i := by
  intro d
  induction d with
  | zero =>
   intro j hj hji
   have e : j = i := by omega
   rw [e]
  | succ d ih =>
   intro j hj hji
   rw [posFrom_step g (by omega), if_neg (by rw [h2 j (by omega)]; simp), List.nil_append]
   exact ih (j + 1) (by omega) (by omega)
 refine ⟨posFrom g n (i + 1), ?_⟩
 unfold posL
 rw [key i 0 rfl (Nat.zero_le _), posFrom_step g hi, if_pos h1]; rfl

theorem partsI_ev {n : Nat} (hn : n ≤ 12) (f : Nat → Nat → Bool) (hsym : ∀ a b, f a b = f b a) : ∃ ps : List (List Int), GoodParts n f ps ∧ Ev (fun k => impl_table_parts.f k (tabF n f)) ps := by
 have hT : (tabF n f).length = n := tabF_length _ _
 have key : ∀ d i (ps : List (List Int)) (s : Nat → Bool), n - i = d → i ≤ n → ps.length ≤ i → (∀ p ∈ ps, ∃ (x : Nat) (t : List Int), p = (x : Int) :: t ∧ IsFirst n f x) → (∀ b, b < n → (s b = true ↔ Covered n f ps b)) → (∀ b, b < i → Covered n f ps b) →
   ∃ R : List (List Int), GoodParts n f R ∧ Ev (fun k => impl_table_parts.l0 k (tabF n f) ps ((maskOf s n : Nat) : Int) (n : Int) (i : Int)) R := by
  intro d
  induction d with
  | zero =>
   intro i ps s hd hi hlen hh hs hcov
   refine ⟨ps, ⟨hh, fun a ha => hcov a (by omega), by omega⟩, ?_⟩
   exact Ev.step (f := fun _ => some ps) (fun k => by simp only [impl_table_parts.l0]; rw [if_neg (by omega)]) (Ev.now _)
  | succ d ih =>
   intro i ps s hd hi hlen hh hs hcov
   have hi2 : i < n := by omega
   by_cases c : s i = true
   ·have c2 := (hs i hi2).1 c
    obtain ⟨R, r1, r2⟩ := ih (i + 1) ps s (by omega) (by omega) (by omega) hh hs (fun b hb => by
     rcases Nat.lt_or_ge b i with z | z
     ·exact hcov b z
     ·have : b = i := by omega
      rw [this]; exact c2)
    refine ⟨R, r1, ?_⟩
    refine Ev.step (f := fun k => impl_table_parts.l0 k (tabF n f) ps ((maskOf s n : Nat) : Int) (n : Int) ((i + 1 : Nat) : Int)) (fun k => ?_) r2
    simp only [impl_table_parts.l0]
    rw [if_pos (by omega), if_pos (by omega), bit16 s (by omega) hi2, if_pos c, if_pos rfl, succ_cast hi2 (by omega)]
   ·have c2 : ¬ Covered n f ps i := fun q => c ((hs i hi2).2 q)
    have hF := first_new hi2 hcov c2
    have hlow : ∀ b, b < i → ownS n f i n b = false := by
     intro b hb
     cases z : ownS n f i n b with
     | false => rfl
     | true =>
      have := hF.2 b (by omega) (((ownS_iff hi2 (by omega)).1 z).symm hsym)
      omega
    obtain ⟨t, ht⟩ := posL_head hi2 (ownS_self n f i n) hlow
    obtain ⟨R, r1, r2⟩ := ih (i + 1) (ps ++ [posL (ownS n f i n) n]) (fun b => s b || ownS n f i n b) (by omega) (by omega) (by rw [List.length_append]; simp; omega) (fun p hp => by
     rcases List.mem_append.1 hp with z | z
     ·exact hh p z
     ·rw [List.mem_singleton] at z
      exact ⟨i, t, z.trans ht, hF⟩) (fun b hb => by
     rw [Bool.or_eq_true, hs b hb, Covered.snoc, ownS_iff hi2 hb]
     constructor
     ·rintro (z | z)
      ·exact Or.inl z
      ·exact Or.inr ⟨i, t, ht, hF, z⟩
     ·rintro (z | ⟨x, t2, e, _, z⟩)
      ·exact Or.inl z
      ·rw [ht] at e
       have : x = i := by have := (List.cons.inj e).1; omega
       subst this; exact Or.inr z) (fun b hb => by
     rcases Nat.lt_or_ge b i with z | z
     ·exact (hcov b z).more
     ·have : b = i := by omega
      rw [this]
      exact Covered.snoc.2 (Or.inr ⟨i, t, ht, hF, Reach.refl n f i⟩))
    refine ⟨R, r1, ?_⟩
    have rounds : ∀ e r, n - r = e → r ≤ n → Ev (fun k => impl_table_parts.l1 k (tabF n f) ps ((maskOf s n : Nat) : Int) ((maskOf (ownS n f i r) n : Nat) : Int) (n : Int) (i : Int) (n : Int) (r : Int)) R := by
     intro e
     induction e with
     | zero =>
      intro r he hr
      have : r = n := by omega
      subst this
      refine Ev.step (f := fun k => (impl_listed.f k ((maskOf (ownS r f i r) r : Nat) : Int)).bind fun t => if ps.length < 5864062014805 then impl_table_parts.l0 k (tabF r f) (ps ++ [t]) (Go.bits .or .u16 ((maskOf s r : Nat) : Int) ((maskOf (ownS r f i r) r : Nat) : Int)) (r : Int) (wrap64 ((i : Int) + 1)) else none) (fun k => by
       simp only [impl_table_parts.l1]; rw [if_neg (by omega)]) ?_
      refine Ev.bind (listed_ev (by omega) _) ?_
      rw [or16m _ _ (by omega), succ_cast hi2 (by omega)]
      refine ev_if (fun _ => r2) (fun q => absurd (by omega) q)
     | succ e ihe =>
      intro r he hr
      have hr2 : r < n := by omega
      have hnext := ihe (r + 1) (by omega) (by omega)
      refine Ev.step (f := fun k => (impl_listed.f k ((maskOf (ownS n f i r) n : Nat) : Int)).bind fun t => impl_table_parts.l2 k (tabF n f) ps ((maskOf s n : Nat) : Int) ((maskOf (ownS n f i r) n : Nat) : Int) (n : Int) (i : Int) (n : Int) (r : Int) t (t.length : Int) 0) (fun k => by
       simp only [impl_table_parts.l1]; rw [if_pos (by omega)]) ?_
      refine Ev.bind (listed_ev (by omega) _) ?_
      have hbd : ∀ x ∈ posL (ownS n f i r) n, 0 ≤ x ∧ x < (n : Int) := fun x hx => posL_bounds hx
      have hpl := posL_le (ownS n f i r) n
      have e1 : ownS n f i (r + 1) = fun b => ownS n f i r b || nearL f (posL (ownS n f i r) n) b := rfl
      rw [e1] at hnext
      generalize posL (ownS n f i r) n = u at hbd hpl hnext
      generalize ownS n f i r = W at hnext
      have q1 := ev_up (n := u.length) (loop := fun k j => impl_table_parts.l2 k (tabF n f) ps ((maskOf s n : Nat) : Int) ((maskOf (fun b => W b || nearL f (u.take j) b) n : Nat) : Int) (n : Int) (i : Int) (n : Int) (r : Int) u (u.length : Int) (j : Int)) (r := fun _ => R)
       (Ev.step (f := fun k => impl_table_parts.l1 k (tabF n f) ps ((maskOf s n : Nat) : Int) ((maskOf (fun b => W b || nearL f u b) n : Nat) : Int) (n : Int) (i : Int) (n : Int) ((r + 1 : Nat) : Int)) (fun k => by
        simp only [impl_table_parts.l2]
        rw [if_neg (by omega), List.take_length, succ_cast hr2 (by omega)]) hnext)
       (fun j hj ih2 => by
        have hx := hbd u[j] (List.getElem_mem hj)
        have ht2 : rd (tabF n f) u[j] = ((maskOf (f u[j].toNat) n : Nat) : Int) := by
         have := tabF_get (n := n) (f := f) (a := u[j].toNat) (by omega)
         rw [Int.toNat_of_nonneg hx.1] at this; exact this
        have e2 : (fun b => (W b || nearL f (u.take j) b) || f u[j].toNat b) = fun b => W b || nearL f (u.take (j + 1)) b := by
         funext b
         rw [nearL_take f u hj, Bool.or_assoc]
        refine Ev.step (f := fun k => impl_table_parts.l2 k (tabF n f) ps ((maskOf s n : Nat) : Int) ((maskOf (fun b => W b || nearL f (u.take (j + 1)) b) n : Nat) : Int) (n : Int) (i : Int) (n : Int) (r : Int) u (u.length : Int) ((j + 1 : Nat) : Int)) (fun k => ?_) ih2
        simp only [impl_table_parts.l2]
        rw [if_pos (by omega), if_pos (by omega), if_pos (by omega), rd_at hj, if_pos (by omega), if_pos (by rw [hT]; omega), ht2, or16m _ _ (by omega), e2, succ_cast hj (by omega)]) 0 (Nat.zero_le _)
      have e0 : (fun b => W b || nearL f (u.take 0) b) = W := by
       funext b
       rw [List.take_zero]
       simp [nearL]
      rw [e0] at q1
      exact q1
    have hstart := rounds n 0 rfl (Nat.zero_le _)
    refine Ev.step (f := fun k => impl_table_parts.l1 k (tabF n f) ps ((maskOf s n : Nat) : Int) (shl .u16 1 (i : Int)) (n : Int) (i : Int) ((tabF n f).length : Int) 0) (fun k => ?_) ?_
    ·simp only [impl_table_parts.l0]
     rw [if_pos (by omega), if_pos (by omega), bit16 s (by omega) hi2, if_neg c, if_neg (by omega)]
    ·rw [shl16 (by omega), hT, mask_one hi2]
     exact hstart
 obtain ⟨R, r1, r2⟩ := key n 0 [] (fun _ => false) rfl (Nat.zero_le _) (by simp) (by simp) (fun b hb => by
  constructor
  ·intro h; cases h
  ·rintro ⟨p, hp, _⟩; simp at hp) (fun b hb => by omega)
 refine ⟨R, r1, ?_⟩
 unfold impl_table_parts.f
 rw [mask_zero.2 (fun _ _ => rfl)] at r2
 rw [hT]; exact r2

theorem l1Put_head (x : Int) (t : List Int) (v : Int) (hv : x ≤ v) (hl : t.length ≤ 1000) : ∃ t2, t2.length ≤ t.length + 1 ∧ Ev (fun k => spec_l1Put.f k (x :: t) v) (x :: t2) := by
 have hlen : (x :: t).length = t.length + 1 := rfl
 have key : ∀ d j, (x :: t).length - j = d → 1 ≤ j → j ≤ (x :: t).length → ∃ t2, t2.length ≤ t.length + 1 ∧ Ev (fun k => spec_l1Put.l0 k (x :: t) v (j : Int)) (x :: t2) := by
  intro d
  induction d with
  | zero =>
   intro j hd h1 hj
   have hj2 : j = (x :: t).length := by omega
   refine ⟨t ++ [v], by simp, ?_⟩
   refine Ev.step (f := fun _ => some (x :: (t ++ [v]))) (fun k => ?_) (Ev.now _)
   subst hj2
   simp only [spec_l1Put.l0]
   rw [if_neg (by omega), Option.bind_some, if_pos (by omega), if_pos (by omega), Option.bind_some, Int.toNat_natCast, List.take_length, if_pos (by simp; omega), Option.bind_some, if_pos (by simp; omega), Option.bind_some, Option.bind_some, List.drop_length, if_pos (by simp; omega)]
   simp
  | succ d ih =>
   intro j hd h1 hj
   have hj2 : j < (x :: t).length := by omega
   by_cases c1 : (x :: t)[j] < v
   ·obtain ⟨t2, e1, e2⟩ := ih (j + 1) (by omega) (by omega) (by omega)
    refine ⟨t2, e1, ?_⟩
    refine Ev.step (f := fun k => spec_l1Put.l0 k (x :: t) v ((j + 1 : Nat) : Int)) (fun k => ?_) e2
    simp only [spec_l1Put.l0]
    rw [if_pos (by omega), if_pos (by omega), rd_at hj2, if_pos c1, succ_cast hj2 (by omega)]
   ·by_cases c2 : (x :: t)[j] = v
    ·refine ⟨t, by omega, ?_⟩
     refine Ev.step (f := fun _ => some (x :: t)) (fun k => ?_) (Ev.now _)
     simp only [spec_l1Put.l0]
     rw [if_pos (by omega), if_pos (by omega), rd_at hj2, if_neg c1, if_pos c2]
    ·refine ⟨t.take (j - 1) ++ v :: t.drop (j - 1), by simp; omega, ?_⟩
     refine Ev.step (f := fun _ => some (x :: (t.take (j - 1) ++ v :: t.drop (j - 1)))) (fun k => ?_) (Ev.now _)
     obtain ⟨i, rfl⟩ : ∃ i, j = i + 1 := ⟨j - 1, by omega⟩
     simp only [spec_l1Put.l0]
     rw [if_pos (by omega), if_pos (by omega), rd_at hj2, if_neg c1, if_neg c2, Option.bind_some, if_pos (by omega), Option.bind_some, Int.toNat_natCast, if_pos (by simp; omega), Option.bind_some, if_pos (by simp; omega), Option.bind_some, Option.bind_some, if_pos (by simp; omega)]
     simp
 by_cases c1 : x < v
 ·obtain ⟨t2, e1, e2⟩ := key t.length 1 (by omega) (Nat.le_refl _) (by omega)
  refine ⟨t2, e1, ?_⟩
  unfold spec_l1Put.f
  refine Ev.step (f := fun k => spec_l1Put.l0 k (x :: t) v ((1 : Nat) : Int)) (fun k => ?_) e2
  simp only [spec_l1Put.l0]
  have e : rd (x :: t) 0 = x := rfl
  rw [if_pos (by omega), if_pos (by omega), e, if_pos c1, wrap_id (by omega) (by omega)]
  rfl
 ·have c2 : x = v := by omega
  refine ⟨t, by omega, ?_⟩
  unfold spec_l1Put.f
  refine Ev.step (f := fun _ => some (x :: t)) (fun k => ?_) (Ev.now _)
  simp only [spec_l1Put.l0]
  have e : rd (x :: t) 0 = x := rfl
  rw [if_pos (by omega), if_pos (by omega), e, if_neg c1, if_pos c2]
theorem l1Put_nil (v : Int) : Ev (fun k => spec_l1Put.f k [] v) [v] := by
 unfold spec_l1Put.f
 refine Ev.step (f := fun _ => some [v]) (fun k => ?_) (Ev.now _)
 simp only [spec_l1Put.l0]
 rw [if_neg (by simp), Option.bind_some, if_pos (by omega), if_pos (by simp)]
 simp

/-- A queue of those seen on the way from x. -/
structure Way (n : Nat) (f : Nat → Nat → Bool) (x k : Nat) (q : List Int) (s0 s : Nat → Bool) : Prop where
 len : q.length ≤ cnt s n + 1
 all : ∀ y ∈ q, ∃ b : Nat, y = (b : Int) ∧ b < n ∧ s b = true ∧ Reach n f x b
 old : ∀ b, b < n → s0 b = true → s b = true
 new : ∀ b, b < n → s b = true → s0 b = true ∨ Reach n f x b
 own : s x = true
 done : ∀ c b, c < n → b < n → s c = true → f c b = true → s b = true ∨ ∃ i, ∃ h : i < q.length, k ≤ i ∧ q[i] = (c : Int)
theorem Way.le {n x k : Nat} {f : Nat → Nat → Bool} {q : List Int} {s0 s : Nat → Bool} (h : Way n f x k q s0 s) : q.length ≤ n + 1 := by
 have := h.len
 have := cnt_le s n
 omega
theorem Way.begin {n x : Nat} {f : Nat → Nat → Bool} {s0 s : Nat → Bool} (hx : x < n) (hs : ∀ b, b < n → s b = (s0 b || decide (b = x))) (hc : ClosedS n f s0) : Way n f x 0 [(x : Int)] s0 s := by
 have hself : s x = true := by rw [hs x hx]; simp
 refine ⟨by simp, fun y hy => ?_, fun b hb h => by rw [hs b hb, h]; rfl, fun b hb h => ?_, hself, fun c b hc2 hb h hf => ?_⟩
 ·rw [List.mem_singleton] at hy
  exact ⟨x, hy, hx, hself, Reach.refl n f x⟩
 ·rw [hs b hb, Bool.or_eq_true, decide_eq_true_eq] at h
  rcases h with h | h
  ·exact Or.inl h
  ·subst h; exact Or.inr (Reach.refl n f b)
 ·rw [hs c hc2, Bool.or_eq_true, decide_eq_true_eq] at h
  rcases h with h | h
  ·left; rw [hs b hb, hc c b hc2 hb h hf]; rfl
  ·subst h
   exact Or.inr ⟨0, by simp, Nat.le_refl _, rfl⟩
theorem Way.push {n x k b : Nat} {f : Nat → Nat → Bool} {q : List Int} {s0 s s' : Nat → Bool} (h : Way n f x k q s0 s) (hk : k < q.length) (hb : b < n) (hf : f q[k].toNat b = true) (hn : s b = false)
  (hs : ∀ c, c < n → s' c = (s c || decide (c = b))) : Way n f x k (q ++ [(b : Int)]) s0 s' := by
 have hup : ∀ c, c < n → s c = true → s' c = true := fun c hc e => by rw [hs c hc, e]; rfl
 have hbs : s' b = true := by rw [hs b hb]; simp
 obtain ⟨v, hv, hv1, hv2, hv3⟩ := h.all q[k] (List.getElem_mem hk)
 have hr : Reach n f x b := hv3.step hv1 hb (by rw [hv] at hf; simpa using hf)
 have hxs := h.own
 refine ⟨?_, fun y hy => ?_, fun c hc e => hup c hc (h.old c hc e), fun c hc e => ?_, ?_, fun c d hc hd e hfd => ?_⟩
 ·have := cnt_one hb hn hs
  have := h.len
  rw [List.length_append, List.length_singleton]; omega
 ·rcases List.mem_append.1 hy with z | z
  ·obtain ⟨c, c1, c2, c3, c4⟩ := h.all y z
   exact ⟨c, c1, c2, hup c c2 c3, c4⟩
  ·rw [List.mem_singleton] at z
   exact ⟨b, z, hb, hbs, hr⟩
 ·rw [hs c hc, Bool.or_eq_true, decide_eq_true_eq] at e
  rcases e with e | e
  ·exact h.new c hc e
  ·subst e; exact Or.inr hr
 ·rcases Nat.lt_or_ge x n with z | z
  ·exact hup x z hxs
  ·exfalso
   have : ∀ y, Reach n f x y → y = x ∨ y < n := fun y hy => hy (fun y => y = x ∨ y < n) (Or.inl rfl) (fun _ _ _ hy _ _ => Or.inr hy)
   have hcl : ∀ y, Reach n f x y → y = x := fun y hy => hy (fun y => y = x) rfl (fun u w hu _ e _ => by subst e; omega)
   have := hcl v hv3
   omega
 ·rw [hs c hc, Bool.or_eq_true, decide_eq_true_eq] at e
  rcases e with e | e
  ·rcases h.done c d hc hd e hfd with z | ⟨i, h1, h2, h3⟩
   ·exact Or.inl (hup d hd z)
   ·exact Or.inr ⟨i, by rw [List.length_append]; omega, h2, by rw [List.getElem_append_left h1]; exact h3⟩
  ·subst e
   exact Or.inr ⟨q.length, by simp, by omega, by simp⟩
theorem Way.next {n x k : Nat} {f : Nat → Nat → Bool} {q : List Int} {s0 s : Nat → Bool} (h : Way n f x k q s0 s) (hk : k < q.length) (hd : ∀ b, b < n → f q[k].toNat b = true → s b = true) : Way n f x (k + 1) q s0 s := by
 refine ⟨h.len, h.all, h.old, h.new, h.own, fun c b hc hb e hf => ?_⟩
 rcases h.done c b hc hb e hf with z | ⟨i, h1, h2, h3⟩
 ·exact Or.inl z
 ·by_cases w : i = k
  ·subst w
   refine Or.inl (hd b hb ?_)
   rw [h3]; simpa using hf
  ·exact Or.inr ⟨i, h1, by omega, h3⟩
theorem Way.closed {n x k : Nat} {f : Nat → Nat → Bool} {q : List Int} {s0 s : Nat → Bool} (h : Way n f x k q s0 s) (hk : q.length ≤ k) : ClosedS n f s := by
 intro c b hc hb e hf
 rcases h.done c b hc hb e hf with z | ⟨i, h1, h2, h3⟩
 ·exact z
 ·omega
theorem Way.all_of {n x k : Nat} {f : Nat → Nat → Bool} {q : List Int} {s0 s : Nat → Bool} (h : Way n f x k q s0 s) (hk : q.length ≤ k) (hx : x < n) {b : Nat} (hr : Reach n f x b) : s b = true :=
 (hr (fun y => y < n ∧ s y = true) ⟨hx, h.own⟩ (fun c b hc hb e hf => ⟨hb, h.closed hk c b hc hb e.2 hf⟩)).2
end Go.Proofs.YtedfcbbklhfgcaaDoor.Plain

/- Tables 0 and 1, by both sides. No condition. -/
namespace Go.Proofs.YtedfcbbklhfgcaaDoor.Plain
open Go.RowKit Go.Proofs.YtedfcbbklhfgcaaDoorW.PrintWords Go.Proofs.YtedfcbbklhfgcaaDoorW.PrintLast
set_option linter.unusedVariables false
open Q

theorem rdParts_at {l : List (List Int)} {i : Nat} (h : i < l.length) : rd_L6 l (i : Int) = l[i] := by
 simp [rd_L6, List.getD, h]
/-- The first i of the parts have b. -/
def Had (n : Nat) (f : Nat → Nat → Bool) (ps : List (List Int)) (i b : Nat) : Prop := Covered n f (ps.take i) b
theorem Had.next {n : Nat} {f : Nat → Nat → Bool} {ps : List (List Int)} {i b x : Nat} {t : List Int} (hi : i < ps.length) (he : ps[i] = (x : Int) :: t) (hx : IsFirst n f x) : Had n f ps (i + 1) b ↔ Had n f ps i b ∨ Reach n f x b := by
 unfold Had
 rw [List.take_succ_eq_append_getElem hi, Covered.snoc]
 constructor
 ·rintro (h | ⟨y, u, e, _, h⟩)
  ·exact Or.inl h
  ·rw [he] at e
   have : y = x := by have := (List.cons.inj e).1; omega
   subst this; exact Or.inr h
 ·rintro (h | h)
  ·exact Or.inl h
  ·exact Or.inr ⟨x, t, he, hx, h⟩

/-- The program's tables so far. -/
structure SoFar (n : Nat) (f : Nat → Nat → Bool) (K : Nat → Prop) (L : List Int) : Prop where
 len : L.length = n
 two : ∀ b, b < n → rd L (b : Int) = 0 ∨ rd L (b : Int) = 1
 zero : ∀ x, IsFirst n f x → rd L (x : Int) = 0
 own : ∀ c, Proper n f c → ∀ b, b < n → K b → rd L (b : Int) = c b

open Classical in
theorem apart_check {n : Nat} (hn : n ≤ 12) (f : Nat → Nat → Bool) {L : List Int} (hL : L.length = n) : Ev (fun k => impl_table_apart.l2 k (tabF n f) L (n : Int) 0) (if Differ n f L then (L, true) else (([] : List Int), false)) := by
 have hT : (tabF n f).length = n := tabF_length _ _
 have key : ∀ d a, n - a = d → a ≤ n → (∀ c b, c < a → c < n → b < n → f c b = true → rd L (c : Int) ≠ rd L (b : Int)) → Ev (fun k => impl_table_apart.l2 k (tabF n f) L (n : Int) (a : Int)) (if Differ n f L then (L, true) else (([] : List Int), false)) := by
  intro d
  induction d with
  | zero =>
   intro a hd ha h
   have hD : Differ n f L := fun c b hc hb hf => h c b (by omega) hc hb hf
   rw [if_pos hD]
   exact Ev.step (f := fun _ => some (L, true)) (fun k => by simp only [impl_table_apart.l2]; rw [if_neg (by omega)]) (Ev.now _)
  | succ d ih =>
   intro a hd ha h
   have ha2 : a < n := by omega
   have hbd : ∀ x ∈ posL (f a) n, 0 ≤ x ∧ x < (n : Int) := fun x hx => posL_bounds hx
   have hpl := posL_le (f a) n
   have hmem : ∀ x, x ∈ posL (f a) n ↔ ∃ b : Nat, b < n ∧ f a b = true ∧ x = (b : Int) := fun x => mem_posL
   refine Ev.step (f := fun k => (impl_listed.f k ((maskOf (f a) n : Nat) : Int)).bind fun t => impl_table_apart.l3 k (tabF n f) L (a : Int) (n : Int) (a : Int) t (t.length : Int) 0) (fun k => by
    simp only [impl_table_apart.l2]; rw [if_pos (by omega), if_pos (by omega), if_pos (by rw [hT]; omega), tabF_get ha2]) ?_
   refine Ev.bind (listed_ev (by omega) (f a)) ?_
   generalize hs : posL (f a) n = s at hbd hpl hmem
   have inner : ∀ e j, s.length - j = e → j ≤ s.length → (∀ i, (hi : i < s.length) → i < j → rd L (a : Int) ≠ rd L s[i]) → Ev (fun k => impl_table_apart.l3 k (tabF n f) L (a : Int) (n : Int) (a : Int) s (s.length : Int) (j : Int)) (if Differ n f L then (L, true) else (([] : List Int), false)) := by
    intro e
    induction e with
    | zero =>
     intro j he hj hdone
     refine Ev.step (f := fun k => impl_table_apart.l2 k (tabF n f) L (n : Int) ((a + 1 : Nat) : Int)) (fun k => by
      simp only [impl_table_apart.l3]; rw [if_neg (by omega), succ_cast ha2 (by omega)]) (ih (a + 1) (by omega) (by omega) (fun c b hc hcn hb hf => ?_))
     rcases Nat.lt_or_ge c a with z | z
     ·exact h c b z hcn hb hf
     ·have : c = a := by omega
      subst this
      obtain ⟨i, hi, e⟩ := List.getElem_of_mem ((hmem (b : Int)).2 ⟨b, hb, hf, rfl⟩)
      have := hdone i hi (by omega)
      rw [e] at this; exact this
    | succ e ihe =>
     intro j he hj hdone
     have hj2 : j < s.length := by omega
     have hx := hbd s[j] (List.getElem_mem hj2)
     obtain ⟨b, hb, hfb, hsb⟩ := (hmem s[j]).1 (List.getElem_mem hj2)
     by_cases c : rd L (a : Int) = rd L s[j]
     ·have hD : ¬ Differ n f L := fun q => q a b ha2 hb hfb (by rw [← hsb]; exact c)
      rw [if_neg hD]
      refine Ev.step (f := fun _ => some (([] : List Int), false)) (fun k => ?_) (Ev.now _)
      simp only [impl_table_apart.l3]
      rw [if_pos (by omega), if_pos (by omega), if_pos (by omega), rd_at hj2, if_pos (by omega), if_pos (by omega), if_pos (by omega), if_pos (by omega), if_pos c]
     ·refine Ev.step (f := fun k => impl_table_apart.l3 k (tabF n f) L (a : Int) (n : Int) (a : Int) s (s.length : Int) ((j + 1 : Nat) : Int)) (fun k => ?_) (ihe (j + 1) (by omega) (by omega) (fun i hi hij => by
       by_cases z : i = j
       ·subst z; exact c
       ·exact hdone i hi (by omega)))
      simp only [impl_table_apart.l3]
      rw [if_pos (by omega), if_pos (by omega), if_pos (by omega), rd_at hj2, if_pos (by omega), if_pos (by omega), if_pos (by omega), if_pos (by omega), if_neg c, succ_cast hj2 (by omega)]
   exact inner s.length 0 rfl (Nat.zero_le _) (fun i hi hij => by omega)
 exact key n 0 rfl (Nat.zero_le _) (fun c b hc => by omega)

theorem apartI_ev {n : Nat} (hn : n ≤ 12) (f : Nat → Nat → Bool) (hsym : ∀ a b, f a b = f b a) : Ev (fun k => impl_table_apart.f k (tabF n f)) (tellT n f) := by
 have hT : (tabF n f).length = n := tabF_length _ _
 obtain ⟨ps, hg, hps⟩ := partsI_ev hn f hsym
 unfold impl_table_apart.f
 rw [hT]
 refine ev_if (fun _ => ?_) (fun c => absurd (by omega) c)
 refine ev_if (fun _ => ?_) (fun c => absurd (by omega) c)
 refine Ev.bind hps ?_
 rw [Int.toNat_natCast]
 have hlen := hg.len
 have key : ∀ d i L, ps.length - i = d → i ≤ ps.length → SoFar n f (Had n f ps i) L → Ev (fun k => impl_table_apart.l0 k (tabF n f) L ps (ps.length : Int) (i : Int)) (tellT n f) := by
  intro d
  induction d with
  | zero =>
   intro i L hd hi h
   have hi2 : i = ps.length := by omega
   have hall : ∀ b, b < n → Had n f ps i b := fun b hb => by
    unfold Had
    rw [hi2, List.take_length]
    exact hg.all b hb
   have := apart_check hn f h.len
   rw [tellT_of h.len h.two h.zero (fun c hc b hb => h.own c hc b hb (hall b hb))] at this
   refine Ev.step (f := fun k => impl_table_apart.l2 k (tabF n f) L (n : Int) 0) (fun k => ?_) this
   simp only [impl_table_apart.l0]
   rw [if_neg (by omega), hT]
  | succ d ih =>
   intro i L hd hi h
   have hi2 : i < ps.length := by omega
   obtain ⟨x, t, hp, hx⟩ := hg.head ps[i] (List.getElem_mem hi2)
   have hxn := hx.1
   obtain ⟨dl, dd⟩ := distL_spec hn f hxn
   refine Ev.step (f := fun k => (impl_table_distances.f k (tabF n f) (x : Int)).bind fun u => impl_table_apart.l1 k (tabF n f) L ps (ps.length : Int) (i : Int) u (u.length : Int) 0) (fun k => ?_) ?_
   ·simp only [impl_table_apart.l0]
    have e : rd ((x : Int) :: t) 0 = (x : Int) := rfl
    rw [if_pos (by omega), if_pos (by omega), if_pos (by omega), rdParts_at hi2, hp, if_pos (by simp only [List.length_cons]; omega), e]
   ·refine Ev.bind (distI_evL hn f hxn) ?_
    generalize distL n f x = D at dl dd
    rw [dl]
    have inner : ∀ e j L, n - j = e → j ≤ n → SoFar n f (fun b => Had n f ps i b ∨ (b < j ∧ 0 ≤ rd D (b : Int))) L → Ev (fun k => impl_table_apart.l1 k (tabF n f) L ps (ps.length : Int) (i : Int) D (n : Int) (j : Int)) (tellT n f) := by
     intro e
     induction e with
     | zero =>
      intro j L he hj h1
      have h2 : SoFar n f (Had n f ps (i + 1)) L := ⟨h1.len, h1.two, h1.zero, fun c hc b hb hk => h1.own c hc b hb (by
       rcases (Had.next hi2 hp hx).1 hk with z | z
       ·exact Or.inl z
       ·exact Or.inr ⟨by omega, dd.reached hxn z⟩)⟩
      refine Ev.step (f := fun k => impl_table_apart.l0 k (tabF n f) L ps (ps.length : Int) ((i + 1 : Nat) : Int)) (fun k => ?_) (ih (i + 1) L (by omega) (by omega) h2)
      simp only [impl_table_apart.l1]
      rw [if_neg (by omega), succ_cast hi2 (by omega)]
     | succ e ihe =>
      intro j L he hj h1
      have hj2 : j < n := by omega
      have hL := h1.len
      by_cases c : 0 ≤ rd D (j : Int)
      ·obtain ⟨v, hv⟩ := Int.eq_ofNat_of_zero_le c
       have hm : Int.tmod (rd D (j : Int)) 2 = ((v % 2 : Nat) : Int) := by rw [hv]; rfl
       have hr := dd.reach v j hj2 hv
       have hset : ∀ b, b < n → rd (L.set j ((v % 2 : Nat) : Int)) (b : Int) = if b = j then ((v % 2 : Nat) : Int) else rd L (b : Int) := fun b hb => rd_set _ (by omega)
       have h2 : SoFar n f (fun b => Had n f ps i b ∨ (b < j + 1 ∧ 0 ≤ rd D (b : Int))) (L.set j ((v % 2 : Nat) : Int)) := by
        refine ⟨by rw [List.length_set]; exact hL, fun b hb => ?_, fun y hy => ?_, fun q hq b hb hk => ?_⟩
        ·rw [hset b hb]
         split
         ·omega
         ·exact h1.two b hb
        ·rw [hset y hy.1]
         by_cases z : y = j
         ·rw [if_pos z]
          subst z
          have e2 := hx.same hsym hy hr
          subst e2
          have := dd.start
          simp only [hv] at this
          have : v = 0 := by omega
          subst this; rfl
         ·rw [if_neg z]; exact h1.zero y hy
        ·rw [hset b hb]
         by_cases z : b = j
         ·rw [if_pos z]
          subst z
          exact (hq.odd hx dd v b hb hv).symm
         ·rw [if_neg z]
          refine h1.own q hq b hb ?_
          rcases hk with w | ⟨w1, w2⟩
          ·exact Or.inl w
          ·exact Or.inr ⟨by omega, w2⟩
       refine Ev.step (f := fun k => impl_table_apart.l1 k (tabF n f) (L.set j ((v % 2 : Nat) : Int)) ps (ps.length : Int) (i : Int) D (n : Int) ((j + 1 : Nat) : Int)) (fun k => ?_) (ihe (j + 1) _ (by omega) (by omega) h2)
       simp only [impl_table_apart.l1]
       rw [if_pos (by omega), if_pos (by omega), if_pos (by omega), if_pos c, if_pos (by omega), hm, Int.toNat_natCast, succ_cast hj2 (by omega)]
      ·have h2 : SoFar n f (fun b => Had n f ps i b ∨ (b < j + 1 ∧ 0 ≤ rd D (b : Int))) L := ⟨hL, h1.two, h1.zero, fun q hq b hb hk => h1.own q hq b hb (by
        rcases hk with w | ⟨w1, w2⟩
        ·exact Or.inl w
        ·by_cases z : b = j
         ·subst z; exact absurd w2 c
         ·exact Or.inr ⟨by omega, w2⟩)⟩
       refine Ev.step (f := fun k => impl_table_apart.l1 k (tabF n f) L ps (ps.length : Int) (i : Int) D (n : Int) ((j + 1 : Nat) : Int)) (fun k => ?_) (ihe (j + 1) L (by omega) (by omega) h2)
       simp only [impl_table_apart.l1]
       rw [if_pos (by omega), if_pos (by omega), if_pos (by omega), if_neg (show ¬ rd D (j : Int) ≥ 0 by omega), succ_cast hj2 (by omega)]
    refine inner n 0 L rfl (Nat.zero_le _) ⟨h.len, h.two, h.zero, fun c hc b hb hk => h.own c hc b hb (by
     rcases hk with w | ⟨w1, _⟩
     ·exact w
     ·omega)⟩
 refine key ps.length 0 _ rfl (Nat.zero_le _) ⟨by simp, fun b hb => Or.inl (rd_replicate _ hb), fun x hx => rd_replicate _ hx.1, fun c hc b hb hk => ?_⟩
 obtain ⟨p, hp, _⟩ := hk
 simp at hp

/-- The reference's tables so far. -/
structure SoFarS (n : Nat) (f : Nat → Nat → Bool) (L : List Int) : Prop where
 len : L.length = n
 two : ∀ b, b < n → rd L (b : Int) = -1 ∨ rd L (b : Int) = 0 ∨ rd L (b : Int) = 1
 zero : ∀ x, IsFirst n f x → rd L (x : Int) ≤ 0
 own : ∀ c, Proper n f c → ∀ b, b < n → 0 ≤ rd L (b : Int) → rd L (b : Int) = c b
theorem SoFarS.put {n x : Nat} {f : Nat → Nat → Bool} {L : List Int} {v : Int} (h : SoFarS n f L) (hx : x < n) (hv : v = 0 ∨ v = 1) (hz : IsFirst n f x → v ≤ 0) (ho : ∀ c, Proper n f c → v = c x) : SoFarS n f (L.set x v) := by
 have hset : ∀ b, b < n → rd (L.set x v) (b : Int) = if b = x then v else rd L (b : Int) := fun b hb => rd_set _ (by rw [h.len]; exact hb)
 refine ⟨by rw [List.length_set]; exact h.len, fun b hb => ?_, fun y hy => ?_, fun c hc b hb hk => ?_⟩
 ·rw [hset b hb]
  split
  ·exact Or.inr hv
  ·exact h.two b hb
 ·rw [hset y hy.1]
  by_cases e : y = x
  ·rw [if_pos e]; subst e; exact hz hy
  ·rw [if_neg e]; exact h.zero y hy
 ·rw [hset b hb] at hk ⊢
  by_cases e : b = x
  ·rw [if_pos e]; subst e; exact ho c hc
  ·rw [if_neg e] at hk ⊢; exact h.own c hc b hb hk

open Classical in
theorem differ_ev {n : Nat} {l : List Pr} (hr : Right n l) (h : l.length ≤ 9223372036854775807) {L : List Int} (hL : L.length = n) (a0 : Int) : Ev (fun k => spec_grDiffer.f k a0 l L) (decide (Differ n (adj l) L)) := by
 unfold spec_grDiffer.f
 have key : ∀ d i, l.length - i = d → i ≤ l.length → (∀ j, (hj : j < l.length) → j < i → rd L l[j].f0 ≠ rd L l[j].f1) → Ev (fun k => spec_grDiffer.l0 k L l (l.length : Int) (i : Int)) (decide (Differ n (adj l) L)) := by
  intro d
  induction d with
  | zero =>
   intro i hd hi hdone
   have hD : Differ n (adj l) L := by
    intro a b ha hb hf
    obtain ⟨x, hx, hxab⟩ := adj_true.1 hf
    obtain ⟨j, hj, rfl⟩ := List.getElem_of_mem hx
    have := hdone j hj (by omega)
    rcases hxab with ⟨e1, e2⟩ | ⟨e1, e2⟩
    ·rw [e1, e2] at this; exact this
    ·rw [e1, e2] at this; exact fun q => this q.symm
   rw [decide_eq_true hD]
   exact Ev.step (f := fun _ => some true) (fun k => by simp only [spec_grDiffer.l0]; rw [if_neg (by omega)]) (Ev.now _)
  | succ d ih =>
   intro i hd hi hdone
   have hi2 : i < l.length := by omega
   have r := hr _ (List.getElem_mem hi2)
   by_cases c : rd L l[i].f0 = rd L l[i].f1
   ·have hD : ¬ Differ n (adj l) L := by
     intro q
     have := q l[i].f0.toNat l[i].f1.toNat (by omega) (by omega) (adj_true.2 ⟨l[i], List.getElem_mem hi2, Or.inl ⟨by omega, by omega⟩⟩)
     rw [Int.toNat_of_nonneg (by omega), Int.toNat_of_nonneg (by omega)] at this
     exact this c
    rw [decide_eq_false hD]
    refine Ev.step (f := fun _ => some false) (fun k => ?_) (Ev.now _)
    simp only [spec_grDiffer.l0]
    rw [if_pos (by omega), if_pos (by omega), if_pos (by omega), rdP_at hi2, if_pos (by omega), if_pos (by omega), if_pos (by omega), if_pos (by omega), if_pos c]
   ·refine Ev.step (f := fun k => spec_grDiffer.l0 k L l (l.length : Int) ((i + 1 : Nat) : Int)) (fun k => ?_) (ih (i + 1) (by omega) (by omega) (fun j hj hji => by
     by_cases z : j = i
     ·subst z; exact c
     ·exact hdone j hj (by omega)))
    simp only [spec_grDiffer.l0]
    rw [if_pos (by omega), if_pos (by omega), if_pos (by omega), rdP_at hi2, if_pos (by omega), if_pos (by omega), if_pos (by omega), if_pos (by omega), if_neg c, succ_cast hi2 h]
 exact key l.length 0 rfl (Nat.zero_le _) (fun j hj hji => by omega)

theorem partsS_ev {n : Nat} {l : List Pr} (hn : n ≤ 12) (hr : Right n l) (h : l.length ≤ 9223372036854775807) : ∃ ps : List (List Int), GoodParts n (adj l) ps ∧ Ev (fun k => spec_paParts.f k (n : Int) l) ps := by
 have hT : (tabB n (adj l)).length = n := tabB_length _ _
 have hsym := adj_comm l
 generalize hf : adj l = f at hT hsym
 have key : ∀ d i (ps : List (List Int)) (s : Nat → Bool), n - i = d → i ≤ n → ps.length ≤ i → (∀ p ∈ ps, ∃ (x : Nat) (t : List Int), p = (x : Int) :: t ∧ IsFirst n f x) → (∀ b, b < n → (s b = true ↔ Covered n f ps b)) → (∀ b, b < i → Covered n f ps b) →
   ∃ R : List (List Int), GoodParts n f R ∧ Ev (fun k => spec_paParts.l0 k (tabB n f) (rowB n s) ps (n : Int) (i : Int)) R := by
  intro d
  induction d with
  | zero =>
   intro i ps s hd hi hlen hh hs hcov
   refine ⟨ps, ⟨hh, fun a ha => hcov a (by omega), by omega⟩, ?_⟩
   exact Ev.step (f := fun _ => some ps) (fun k => by simp only [spec_paParts.l0]; rw [if_neg (by omega)]) (Ev.now _)
  | succ d ih =>
   intro i ps s hd hi hlen hh hs hcov
   have hi2 : i < n := by omega
   have hrs : ∀ (s : Nat → Bool) (b : Nat), b < n → rdOf false (rowB n s) (b : Int) = s b := fun s b hb => by
    rw [rdOfB_at (by rw [rowB_length]; exact hb), rowB_get]
   by_cases c : s i = true
   ·have c2 := (hs i hi2).1 c
    obtain ⟨R, r1, r2⟩ := ih (i + 1) ps s (by omega) (by omega) (by omega) hh hs (fun b hb => by
     rcases Nat.lt_or_ge b i with z | z
     ·exact hcov b z
     ·have : b = i := by omega
      rw [this]; exact c2)
    refine ⟨R, r1, ?_⟩
    refine Ev.step (f := fun k => spec_paParts.l0 k (tabB n f) (rowB n s) ps (n : Int) ((i + 1 : Nat) : Int)) (fun k => ?_) r2
    simp only [spec_paParts.l0]
    rw [if_pos (by omega), if_pos (by omega), if_pos (by rw [rowB_length]; omega), hrs s i hi2, if_pos c, succ_cast hi2 (by omega)]
   ·have c2 : ¬ Covered n f ps i := fun q => c ((hs i hi2).2 q)
    have hF := first_new hi2 hcov c2
    have hcl : ClosedS n f s := fun a b ha hb e hfab => (hs b hb).2 (((hs a ha).1 e).on ha hb hfab)
    -- behind the queue
    have fin : ∀ (s2 : Nat → Bool) (q : List Int) (kk : Nat) (t : List Int), Way n f i kk q s s2 → q.length ≤ kk → t.length ≤ 20 → ∃ R : List (List Int), GoodParts n f R ∧ Ev (fun k => spec_paParts.l0 k (tabB n f) (rowB n s2) (ps ++ [(i : Int) :: t]) (n : Int) ((i + 1 : Nat) : Int)) R := by
     intro s2 q kk t hw hk ht
     refine ih (i + 1) (ps ++ [(i : Int) :: t]) s2 (by omega) (by omega) (by rw [List.length_append]; simp; omega) (fun p hp => by
      rcases List.mem_append.1 hp with z | z
      ·exact hh p z
      ·rw [List.mem_singleton] at z
       exact ⟨i, t, z, hF⟩) (fun b hb => by
      rw [Covered.snoc]
      constructor
      ·intro e
       rcases hw.new b hb e with z | z
       ·exact Or.inl ((hs b hb).1 z)
       ·exact Or.inr ⟨i, t, rfl, hF, z⟩
      ·rintro (z | ⟨x, t2, e, _, z⟩)
       ·exact hw.old b hb ((hs b hb).2 z)
       ·have : x = i := by have := (List.cons.inj e).1; omega
        subst this; exact hw.all_of hk hi2 z) (fun b hb => by
      rcases Nat.lt_or_ge b i with z | z
      ·exact (hcov b z).more
      ·have : b = i := by omega
       rw [this]
       exact Covered.snoc.2 (Or.inr ⟨i, t, rfl, hF, Reach.refl n f i⟩))
    have visit : ∀ (kk : Nat) (t2 : List Int) (v : Nat) (s2 : Nat → Bool) (q : List Int), kk ≤ n → v < n →
      (∀ (s3 : Nat → Bool) (q3 : List Int), Way n f i (kk + 1) q3 s s3 → kk + 1 ≤ q3.length → ∃ R : List (List Int), GoodParts n f R ∧ Ev (fun k => spec_paParts.l1 k (tabB n f) (rowB n s3) ps q3 ((i : Int) :: t2) ((kk + 1 : Nat) : Int) (n : Int) (i : Int)) R) →
      Way n f i kk q s s2 → (hkk : kk < q.length) → q[kk] = (v : Int) →
      ∃ R : List (List Int), GoodParts n f R ∧ Ev (fun k => spec_paParts.l2 k (tabB n f) (rowB n s2) ps q ((i : Int) :: t2) (kk : Int) (n : Int) (i : Int) (posL (f v) n) ((posL (f v) n).length : Int) 0) R := by
     intro kk t2 v s2 q hkn hv hnext hw hkk hqv
     have hbd : ∀ x ∈ posL (f v) n, 0 ≤ x ∧ x < (n : Int) := fun x hx => posL_bounds hx
     have hpl := posL_le (f v) n
     have hmem : ∀ x, x ∈ posL (f v) n ↔ ∃ b : Nat, b < n ∧ f v b = true ∧ x = (b : Int) := fun x => mem_posL
     generalize posL (f v) n = u at hbd hpl hmem
     have inner : ∀ e j (s2 : Nat → Bool) (q : List Int), u.length - j = e → j ≤ u.length → Way n f i kk q s s2 → (hkk : kk < q.length) → q[kk] = (v : Int) → (∀ m, (hm : m < u.length) → m < j → s2 (u[m]).toNat = true) →
       ∃ R : List (List Int), GoodParts n f R ∧ Ev (fun k => spec_paParts.l2 k (tabB n f) (rowB n s2) ps q ((i : Int) :: t2) (kk : Int) (n : Int) (i : Int) u (u.length : Int) (j : Int)) R := by
      intro e
      induction e with
      | zero =>
       intro j s2 q he hj hw hkk hqv hdone
       have hw2 := hw.next hkk (fun b hb hfb => by
        rw [hqv, Int.toNat_natCast] at hfb
        obtain ⟨m, hm, e⟩ := List.getElem_of_mem ((hmem (b : Int)).2 ⟨b, hb, hfb, rfl⟩)
        have := hdone m hm (by omega)
        rw [e, Int.toNat_natCast] at this; exact this)
       obtain ⟨R, r1, r2⟩ := hnext s2 q hw2 (by omega)
       refine ⟨R, r1, ?_⟩
       refine Ev.step (f := fun k => spec_paParts.l1 k (tabB n f) (rowB n s2) ps q ((i : Int) :: t2) ((kk + 1 : Nat) : Int) (n : Int) (i : Int)) (fun k => ?_) r2
       simp only [spec_paParts.l2]
       rw [if_neg (by omega), wrap_id (by omega) (by omega)]; rfl
      | succ e ihe =>
       intro j s2 q he hj hw hkk hqv hdone
       have hj2 : j < u.length := by omega
       have hx := hbd u[j] (List.getElem_mem hj2)
       obtain ⟨b, hb, hfb, hsb⟩ := (hmem u[j]).1 (List.getElem_mem hj2)
       have hqn := hw.le
       by_cases hnew : s2 b = true
       ·obtain ⟨R, r1, r2⟩ := ihe (j + 1) s2 q (by omega) (by omega) hw hkk hqv (fun m hm hmj => by
         by_cases z : m = j
         ·subst z; rw [hsb, Int.toNat_natCast]; exact hnew
         ·exact hdone m hm (by omega))
        refine ⟨R, r1, ?_⟩
        refine Ev.step (f := fun k => spec_paParts.l2 k (tabB n f) (rowB n s2) ps q ((i : Int) :: t2) (kk : Int) (n : Int) (i : Int) u (u.length : Int) ((j + 1 : Nat) : Int)) (fun k => ?_) r2
        simp only [spec_paParts.l2]
        rw [if_pos (by omega), if_pos (by omega), if_pos (by omega), rd_at hj2, hsb, if_pos (by omega), if_pos (by rw [rowB_length]; omega), hrs s2 b hb, if_pos hnew, succ_cast hj2 (by omega)]
       ·have hset : (rowB n s2).set b true = rowB n (fun c => if c = b then true else s2 c) := rowB_set true
        have hw2 : Way n f i kk (q ++ [(b : Int)]) s (fun c => if c = b then true else s2 c) := hw.push hkk hb (by rw [hqv, Int.toNat_natCast]; exact hfb) (by simpa using hnew) (fun c _ => by
         by_cases z : c = b
         ·rw [if_pos z, decide_eq_true z, Bool.or_true]
         ·rw [if_neg z, decide_eq_false z, Bool.or_false])
        obtain ⟨R, r1, r2⟩ := ihe (j + 1) _ (q ++ [(b : Int)]) (by omega) (by omega) hw2 (by rw [List.length_append]; omega) (by rw [List.getElem_append_left hkk]; exact hqv) (fun m hm hmj => by
         show (if u[m].toNat = b then true else s2 u[m].toNat) = true
         by_cases z : m = j
         ·subst z; rw [if_pos (by rw [hsb, Int.toNat_natCast])]
         ·rw [hdone m hm (by omega)]; split <;> rfl)
        refine ⟨R, r1, ?_⟩
        refine Ev.step (f := fun k => spec_paParts.l2 k (tabB n f) (rowB n (fun c => if c = b then true else s2 c)) ps (q ++ [(b : Int)]) ((i : Int) :: t2) (kk : Int) (n : Int) (i : Int) u (u.length : Int) ((j + 1 : Nat) : Int)) (fun k => ?_) r2
        simp only [spec_paParts.l2]
        rw [if_pos (by omega), if_pos (by omega), if_pos (by omega), rd_at hj2, hsb, if_pos (by omega), if_pos (by rw [rowB_length]; omega), hrs s2 b hb, if_neg hnew, if_pos (by omega), Int.toNat_natCast, hset, succ_cast hj2 (by omega)]
     exact inner u.length 0 s2 q rfl (Nat.zero_le _) hw hkk hqv (fun m hm hmj => by omega)
    have walk : ∀ e kk (s2 : Nat → Bool) (q t : List Int), n + 1 - kk = e → Way n f i kk q s s2 → kk ≤ q.length → t.length ≤ kk → ∃ R : List (List Int), GoodParts n f R ∧ Ev (fun k => spec_paParts.l1 k (tabB n f) (rowB n s2) ps q ((i : Int) :: t) (kk : Int) (n : Int) (i : Int)) R := by
     intro e
     induction e with
     | zero =>
      intro kk s2 q t he hw hk ht
      have hqn := hw.le
      obtain ⟨R, r1, r2⟩ := fin s2 q kk t hw (by omega) (by omega)
      refine ⟨R, r1, ?_⟩
      refine Ev.step (f := fun k => spec_paParts.l0 k (tabB n f) (rowB n s2) (ps ++ [(i : Int) :: t]) (n : Int) ((i + 1 : Nat) : Int)) (fun k => ?_) r2
      simp only [spec_paParts.l1]
      rw [if_neg (by omega), if_pos (by omega), succ_cast hi2 (by omega)]
     | succ e ihe =>
      intro kk s2 q t he hw hk ht
      have hqn := hw.le
      by_cases hlt : kk < q.length
      ·obtain ⟨v, hv, hvn, _, hvr⟩ := hw.all q[kk] (List.getElem_mem hlt)
       have hiv : i ≤ v := hF.2 v hvn (hvr.symm hsym)
       obtain ⟨t2, e1, e2⟩ := l1Put_head (i : Int) t (v : Int) (by omega) (by omega)
       obtain ⟨R, r1, r2⟩ := visit kk t2 v s2 q (by omega) hvn (fun s3 q3 hw3 hk3 => ihe (kk + 1) s3 q3 t2 (by omega) hw3 hk3 (by omega)) hw hlt hv
       refine ⟨R, r1, ?_⟩
       refine Ev.step (f := fun k => (spec_l1Put.f k ((i : Int) :: t) (v : Int)).bind fun y => (spec_paFriends.f k (tabB n f) (v : Int)).bind fun u => spec_paParts.l2 k (tabB n f) (rowB n s2) ps q y (kk : Int) (n : Int) (i : Int) u (u.length : Int) 0) (fun k => ?_) ?_
       ·simp only [spec_paParts.l1]
        rw [if_pos (by omega), if_pos (by omega), rd_at hlt, hv]
       ·refine Ev.bind e2 ?_
        exact Ev.bind (paFriends_ev hn f hvn) r2
      ·obtain ⟨R, r1, r2⟩ := fin s2 q kk t hw (by omega) (by omega)
       refine ⟨R, r1, ?_⟩
       refine Ev.step (f := fun k => spec_paParts.l0 k (tabB n f) (rowB n s2) (ps ++ [(i : Int) :: t]) (n : Int) ((i + 1 : Nat) : Int)) (fun k => ?_) r2
       simp only [spec_paParts.l1]
       rw [if_neg (by omega), if_pos (by omega), succ_cast hi2 (by omega)]
    have hset : (rowB n s).set i true = rowB n (fun c => if c = i then true else s c) := rowB_set true
    have hw0 : Way n f i 0 [(i : Int)] s (fun c => if c = i then true else s c) := Way.begin hi2 (fun b _ => by
     by_cases z : b = i
     ·rw [if_pos z, decide_eq_true z, Bool.or_true]
     ·rw [if_neg z, decide_eq_false z, Bool.or_false]) hcl
    obtain ⟨R, r1, r2⟩ := visit 0 [] i _ [(i : Int)] (by omega) hi2 (fun s3 q3 hw3 hk3 => walk n 1 s3 q3 [] (by omega) hw3 hk3 (by simp)) hw0 (by simp) rfl
    refine ⟨R, r1, ?_⟩
    refine Ev.step (f := fun k => spec_paParts.l1 k (tabB n f) (rowB n (fun c => if c = i then true else s c)) ps [(i : Int)] [] 0 (n : Int) (i : Int)) (fun k => ?_) ?_
    ·simp only [spec_paParts.l0]
     rw [if_pos (by omega), if_pos (by omega), if_pos (by rw [rowB_length]; omega), hrs s i hi2, if_neg c, Int.toNat_natCast, hset]
    ·refine Ev.step (f := fun k => (spec_l1Put.f k [] (i : Int)).bind fun y => (spec_paFriends.f k (tabB n f) (i : Int)).bind fun u => spec_paParts.l2 k (tabB n f) (rowB n (fun c => if c = i then true else s c)) ps [(i : Int)] y 0 (n : Int) (i : Int) u (u.length : Int) 0) (fun k => ?_) ?_
     ·simp only [spec_paParts.l1]
      rw [if_pos (by simp), if_pos (by omega)]
      rfl
     ·refine Ev.bind (l1Put_nil (i : Int)) ?_
      exact Ev.bind (paFriends_ev hn f hi2) r2
 obtain ⟨R, r1, r2⟩ := key n 0 [] (fun _ => false) rfl (Nat.zero_le _) (by simp) (by simp) (fun b hb => by
  constructor
  ·intro h; cases h
  ·rintro ⟨p, hp, _⟩; simp at hp) (fun b hb => by omega)
 refine ⟨R, r1, ?_⟩
 unfold spec_paParts.f
 refine Ev.bind (paTable_ev hn hr h) ?_
 rw [hf, hT]
 refine ev_if (fun _ => ?_) (fun c => absurd (by omega) c)
 refine ev_if (fun _ => ?_) (fun c => absurd (by omega) c)
 have e : List.replicate ((n : Int)).toNat false = rowB n (fun _ => false) := by
  rw [Int.toNat_natCast]; unfold rowB; rw [List.map_const', List.length_range]
 rw [e]; exact r2

open Classical in
theorem apartS_ev {n : Nat} {l : List Pr} (hn : n ≤ 12) (hr : Right n l) (h : l.length ≤ 9223372036854775807) : Ev (fun k => spec_taTables.f k (n : Int) l) (tellT n (adj l)) := by
 have hT : (tabB n (adj l)).length = n := tabB_length _ _
 have hsym := adj_comm l
 obtain ⟨ps, hg, hps⟩ := partsS_ev hn hr h
 have hlen := hg.len
 unfold spec_taTables.f
 refine Ev.bind (paTable_ev hn hr h) ?_
 rw [hT]
 have hdiff := fun {L : List Int} (hL : L.length = n) => differ_ev hr h hL (n : Int)
 generalize hf : adj l = f at hT hsym hg hdiff
 -- a part
 have parts : ∀ d i L, ps.length - i = d → i ≤ ps.length → SoFarS n f L → ClosedS n f (fun b => decide (0 ≤ rd L (b : Int))) → (∀ b, b < n → Had n f ps i b → 0 ≤ rd L (b : Int)) →
   Ev (fun k => spec_taTables.l1 k (tabB n f) L ps (ps.length : Int) (i : Int) (n : Int) l) (tellT n f) := by
  intro d
  induction d with
  | zero =>
   intro i L hd hi h1 hcl hcov
   have hi2 : i = ps.length := by omega
   have hall : ∀ b, b < n → 0 ≤ rd L (b : Int) := fun b hb => hcov b hb (by
    unfold Had
    rw [hi2, List.take_length]
    exact hg.all b hb)
   have ht := tellT_of h1.len (fun b hb => by have := h1.two b hb; have := hall b hb; omega) (fun x hx => by have := h1.zero x hx; have := hall x hx.1; omega) (fun c hc b hb => h1.own c hc b hb (hall b hb))
   rw [← ht]
   refine Ev.step (f := fun k => (spec_grDiffer.f k (n : Int) l L).bind fun t => if t = true then some (L, true) else some (([] : List Int), false)) (fun k => ?_) ?_
   ·simp only [spec_taTables.l1]
    rw [if_neg (by omega)]
   ·refine Ev.bind (hdiff h1.len) ?_
    refine ev_some (fun _ => ?_)
    by_cases z : Differ n f L
    ·rw [if_pos z, if_pos (decide_eq_true z)]
    ·rw [if_neg z, if_neg (fun q => z (of_decide_eq_true q))]
  | succ d ih =>
   intro i L hd hi h1 hcl hcov
   have hi2 : i < ps.length := by omega
   obtain ⟨x, t, hp, hx⟩ := hg.head ps[i] (List.getElem_mem hi2)
   have hxn := hx.1
   have hL := h1.len
   have hput := h1.put hxn (v := 0) (Or.inl rfl) (fun _ => Int.le_refl _) (fun c hc => (hc.zero x hx).symm)
   have hset : ∀ b, b < n → rd (L.set x 0) (b : Int) = if b = x then 0 else rd L (b : Int) := fun b hb => rd_set _ (by omega)
   -- behind the queue
   have walk : ∀ e kk (q L2 : List Int), n + 1 - kk = e → SoFarS n f L2 → Way n f x kk q (fun b => decide (0 ≤ rd L (b : Int))) (fun b => decide (0 ≤ rd L2 (b : Int))) → kk ≤ q.length →
     Ev (fun k => spec_taTables.l2 k (tabB n f) L2 q (kk : Int) ps (ps.length : Int) (i : Int) (n : Int) l) (tellT n f) := by
    have fin : ∀ kk (q L2 : List Int), SoFarS n f L2 → Way n f x kk q (fun b => decide (0 ≤ rd L (b : Int))) (fun b => decide (0 ≤ rd L2 (b : Int))) → q.length ≤ kk →
      Ev (fun k => spec_taTables.l2 k (tabB n f) L2 q (kk : Int) ps (ps.length : Int) (i : Int) (n : Int) l) (tellT n f) := by
     intro kk q L2 h2 hw hk
     refine Ev.step (f := fun k => spec_taTables.l1 k (tabB n f) L2 ps (ps.length : Int) ((i + 1 : Nat) : Int) (n : Int) l) (fun k => ?_) (ih (i + 1) L2 (by omega) (by omega) h2 (hw.closed hk) (fun b hb hhad => ?_))
     ·simp only [spec_taTables.l2]
      rw [if_neg (by omega), succ_cast hi2 (by omega)]
     ·rcases (Had.next hi2 hp hx).1 hhad with z | z
      ·exact of_decide_eq_true (hw.old b hb (decide_eq_true (hcov b hb z)))
      ·exact of_decide_eq_true (hw.all_of hk hxn z)
    intro e
    induction e with
    | zero =>
     intro kk q L2 he h2 hw hk
     have := hw.le
     exact fin kk q L2 h2 hw (by omega)
    | succ e ihe =>
     intro kk q L2 he h2 hw hk
     have hqn := hw.le
     by_cases hlt : kk < q.length
     ·obtain ⟨v, hv, hvn, hvs, hvr⟩ := hw.all q[kk] (List.getElem_mem hlt)
      refine Ev.step (f := fun k => (spec_paFriends.f k (tabB n f) (v : Int)).bind fun u => spec_taTables.l3 k (tabB n f) L2 q (kk : Int) ps (ps.length : Int) (i : Int) u (u.length : Int) 0 (n : Int) l) (fun k => ?_) ?_
      ·simp only [spec_taTables.l2]
       rw [if_pos (by omega), if_pos (by omega), rd_at hlt, hv]
      ·refine Ev.bind (paFriends_ev hn f hvn) ?_
       have hbd : ∀ y ∈ posL (f v) n, 0 ≤ y ∧ y < (n : Int) := fun y hy => posL_bounds hy
       have hpl := posL_le (f v) n
       have hmem : ∀ y, y ∈ posL (f v) n ↔ ∃ b : Nat, b < n ∧ f v b = true ∧ y = (b : Int) := fun y => mem_posL
       generalize posL (f v) n = u at hbd hpl hmem
       have inner : ∀ e2 j (q2 L3 : List Int), u.length - j = e2 → j ≤ u.length → SoFarS n f L3 → Way n f x kk q2 (fun b => decide (0 ≤ rd L (b : Int))) (fun b => decide (0 ≤ rd L3 (b : Int))) → (hkk : kk < q2.length) → q2[kk] = (v : Int) → (∀ m, (hm : m < u.length) → m < j → 0 ≤ rd L3 u[m]) →
         Ev (fun k => spec_taTables.l3 k (tabB n f) L3 q2 (kk : Int) ps (ps.length : Int) (i : Int) u (u.length : Int) (j : Int) (n : Int) l) (tellT n f) := by
        intro e2
        induction e2 with
        | zero =>
         intro j q2 L3 he2 hj h3 hw2 hkk hqv hdone
         have hw3 := hw2.next hkk (fun b hb hfb => by
          rw [hqv, Int.toNat_natCast] at hfb
          obtain ⟨m, hm, e⟩ := List.getElem_of_mem ((hmem (b : Int)).2 ⟨b, hb, hfb, rfl⟩)
          have := hdone m hm (by omega)
          rw [e] at this; exact decide_eq_true this)
         refine Ev.step (f := fun k => spec_taTables.l2 k (tabB n f) L3 q2 ((kk + 1 : Nat) : Int) ps (ps.length : Int) (i : Int) (n : Int) l) (fun k => ?_) (ihe (kk + 1) q2 L3 (by omega) h3 hw3 (by omega))
         simp only [spec_taTables.l3]
         rw [if_neg (by omega), wrap_id (by omega) (by omega)]; rfl
        | succ e2 ihe2 =>
         intro j q2 L3 he2 hj h3 hw2 hkk hqv hdone
         have hj2 : j < u.length := by omega
         have hy := hbd u[j] (List.getElem_mem hj2)
         obtain ⟨b, hb, hfb, hsb⟩ := (hmem u[j]).1 (List.getElem_mem hj2)
         have hqn2 := hw2.le
         have hL3 := h3.len
         have hv0 : 0 ≤ rd L3 (v : Int) := by
          obtain ⟨w, hw4, hwn, hws, _⟩ := hw2.all q2[kk] (List.getElem_mem hkk)
          have : w = v := by rw [hqv] at hw4; omega
          subst this; exact of_decide_eq_true hws
         by_cases hnew : rd L3 (b : Int) < 0
         ·have hvv := h3.two v hvn
          have hval : wrap64 (1 - rd L3 (v : Int)) = 1 - rd L3 (v : Int) := wrap_id (by omega) (by omega)
          have hrb : Reach n f x b := hvr.step hvn hb hfb
          have h4 := h3.put hb (v := 1 - rd L3 (v : Int)) (by omega) (fun hfst => by
           have e5 := hx.same hsym hfst hrb
           subst e5
           have := of_decide_eq_true hw2.own
           omega) (fun c hc => by
           have a1 := h3.own c hc v hvn hv0
           have a2 := hc.two v hvn
           have a3 := hc.two b hb
           have a4 := hc.ne v b hvn hb hfb
           omega)
          have hset3 : ∀ c, c < n → rd (L3.set b (1 - rd L3 (v : Int))) (c : Int) = if c = b then 1 - rd L3 (v : Int) else rd L3 (c : Int) := fun c hc => rd_set _ (by omega)
          have hw5 : Way n f x kk (q2 ++ [(b : Int)]) (fun b => decide (0 ≤ rd L (b : Int))) (fun c => decide (0 ≤ rd (L3.set b (1 - rd L3 (v : Int))) (c : Int))) := hw2.push hkk hb (by rw [hqv, Int.toNat_natCast]; exact hfb) (decide_eq_false (by omega)) (fun c hc => by
           rw [hset3 c hc]
           by_cases z : c = b
           ·rw [if_pos z, decide_eq_true (show 0 ≤ 1 - rd L3 (v : Int) by omega), decide_eq_true z, Bool.or_true]
           ·rw [if_neg z, decide_eq_false z, Bool.or_false])
          refine Ev.step (f := fun k => spec_taTables.l3 k (tabB n f) (L3.set b (1 - rd L3 (v : Int))) (q2 ++ [(b : Int)]) (kk : Int) ps (ps.length : Int) (i : Int) u (u.length : Int) ((j + 1 : Nat) : Int) (n : Int) l) (fun k => ?_) (ihe2 (j + 1) _ _ (by omega) (by omega) h4 hw5 (by rw [List.length_append]; omega) (by rw [List.getElem_append_left hkk]; exact hqv) (fun m hm hmj => ?_))
          ·simp only [spec_taTables.l3]
           rw [if_pos (by omega), if_pos (by omega), if_pos (by omega), rd_at hj2, hsb, if_pos (by omega), if_pos (by omega), if_pos hnew, if_pos (by omega), if_pos (by omega), rd_at hkk, hqv, if_pos (by omega), if_pos (by omega), if_pos (by omega), hval, Int.toNat_natCast, succ_cast hj2 (by omega)]
          ·obtain ⟨c, hc, _, hsc⟩ := (hmem u[m]).1 (List.getElem_mem hm)
           rw [hsc, hset3 c hc]
           by_cases z : c = b
           ·rw [if_pos z]; omega
           ·rw [if_neg z]
            have : m ≠ j := by
             intro z2; subst z2; rw [hsb] at hsc; omega
            have := hdone m hm (by omega)
            rw [hsc] at this; exact this
         ·refine Ev.step (f := fun k => spec_taTables.l3 k (tabB n f) L3 q2 (kk : Int) ps (ps.length : Int) (i : Int) u (u.length : Int) ((j + 1 : Nat) : Int) (n : Int) l) (fun k => ?_) (ihe2 (j + 1) q2 L3 (by omega) (by omega) h3 hw2 hkk hqv (fun m hm hmj => ?_))
          ·simp only [spec_taTables.l3]
           rw [if_pos (by omega), if_pos (by omega), if_pos (by omega), rd_at hj2, hsb, if_pos (by omega), if_pos (by omega), if_neg hnew, succ_cast hj2 (by omega)]
          ·by_cases z : m = j
           ·subst z; rw [hsb]; omega
           ·exact hdone m hm (by omega)
       exact inner u.length 0 q L2 rfl (Nat.zero_le _) h2 hw hlt hv (fun m hm hmj => by omega)
     ·exact fin kk q L2 h2 hw (by omega)
   have hw0 : Way n f x 0 [(x : Int)] (fun b => decide (0 ≤ rd L (b : Int))) (fun b => decide (0 ≤ rd (L.set x 0) (b : Int))) := Way.begin hxn (fun b hb => by
    rw [hset b hb]
    by_cases z : b = x
    ·rw [if_pos z, decide_eq_true z, Bool.or_true]; rfl
    ·rw [if_neg z, decide_eq_false z, Bool.or_false]) hcl
   refine Ev.step (f := fun k => spec_taTables.l2 k (tabB n f) (L.set x 0) [(x : Int)] 0 ps (ps.length : Int) (i : Int) (n : Int) l) (fun k => ?_) (walk (n + 1) 0 _ _ rfl hput hw0 (by omega))
   simp only [spec_taTables.l1]
   have e : rd ((x : Int) :: t) 0 = (x : Int) := rfl
   rw [if_pos (by omega), if_pos (by omega), if_pos (by omega), rdParts_at hi2, hp, if_pos (by simp only [List.length_cons]; omega), e, if_pos (by omega), if_pos (by omega), Int.toNat_natCast]
 have start := parts ps.length 0 (List.replicate n (-1)) rfl (Nat.zero_le _) ⟨by simp, fun b hb => Or.inl (rd_replicate _ hb), fun x hx => by rw [rd_replicate _ hx.1]; omega, fun c hc b hb hk => by rw [rd_replicate _ hb] at hk; omega⟩
  (fun a b ha hb e hfab => by
   have e2 := of_decide_eq_true e
   rw [rd_replicate _ ha] at e2
   omega) (fun b hb hk => by
   obtain ⟨p, hp, _⟩ := hk
   simp at hp)
 have q := ev_up (n := n) (loop := fun k i => spec_taTables.l0 k (tabB n f) (List.replicate i (-1)) (n : Int) (i : Int) (n : Int) l) (r := fun _ => tellT n f)
  (Ev.step (f := fun k => (spec_paParts.f k (n : Int) l).bind fun t => spec_taTables.l1 k (tabB n f) (List.replicate n (-1)) t (t.length : Int) 0 (n : Int) l) (fun k => by
   simp only [spec_taTables.l0]
   rw [if_neg (by omega)]) (Ev.bind hps start))
  (fun i hi ih => by
   refine Ev.step (f := fun k => spec_taTables.l0 k (tabB n f) (List.replicate (i + 1) (-1)) (n : Int) ((i + 1 : Nat) : Int) (n : Int) l) (fun k => ?_) ih
   simp only [spec_taTables.l0]
   rw [if_pos (by omega), if_pos (by rw [List.length_replicate]; omega), ← List.replicate_succ', succ_cast hi (by omega)]) 0 (Nat.zero_le _)
 exact q
end Go.Proofs.YtedfcbbklhfgcaaDoor.Plain

/- The party of a table, on both sides. No condition but that there are at most twelve people. -/
namespace Go.Proofs.YtedfcbbklhfgcaaDoor.Plain
open Go.RowKit Go.Proofs.YtedfcbbklhfgcaaDoorW.PrintWords Go.Proofs.YtedfcbbklhfgcaaDoorW.PrintLast
set_option linter.unusedVariables false
open Q

/-- A person's pairs with people from b on. -/
def rowFrom (n : Nat) (f : Nat → Bool) (a b : Nat) : List Pr := ((List.range n).drop b).filterMap fun c => if f c = true then some ⟨(a : Int), (c : Int)⟩ else none
/-- The pairs of people from a on. -/
def restFrom (n : Nat) (f : Nat → Nat → Bool) (a : Nat) : List Pr := ((List.range n).drop a).flatMap fun a => rowFrom n (f a) a (a + 1)
/-- The pairs of a relation, in order. -/
def pairsF (n : Nat) (f : Nat → Nat → Bool) : List Pr := restFrom n f 0

theorem rowFrom_end (n : Nat) (f : Nat → Bool) (a b : Nat) (h : n ≤ b) : rowFrom n f a b = [] := by
 unfold rowFrom
 rw [List.drop_of_length_le (by simpa using h)]; rfl
theorem rowFrom_step {n : Nat} {f : Nat → Bool} {a b : Nat} (h : b < n) : rowFrom n f a b = (if f b = true then [⟨(a : Int), (b : Int)⟩] else []) ++ rowFrom n f a (b + 1) := by
 unfold rowFrom
 rw [List.drop_eq_getElem_cons (by simpa using h), List.filterMap_cons, List.getElem_range]
 by_cases c : f b = true
 ·rw [if_pos c, if_pos c]; rfl
 ·rw [if_neg c, if_neg c]; rfl
theorem restFrom_end (n : Nat) (f : Nat → Nat → Bool) : restFrom n f n = [] := by
 unfold restFrom
 rw [List.drop_of_length_le (by simp)]; rfl
theorem restFrom_step {n : Nat} {f : Nat → Nat → Bool} {a : Nat} (h : a < n) : restFrom n f a = rowFrom n (f a) a (a + 1) ++ restFrom n f (a + 1) := by
 unfold restFrom
 rw [List.drop_eq_getElem_cons (by simpa using h), List.flatMap_cons, List.getElem_range]

theorem paOf_ev {n : Nat} (hn : n ≤ 12) (f : Nat → Nat → Bool) : Ev (fun k => spec_paOf.f k (tabB n f)) ((n : Int), pairsF n f) := by
 have outer : ∀ d a acc, a ≤ n → n - a = d → List.length acc ≤ 12 * a → Ev (fun k => spec_paOf.l0 k (tabB n f) (n : Int) (a : Int) (n : Int) acc) ((n : Int), acc ++ restFrom n f a) := by
  intro d
  induction d with
  | zero =>
   intro a acc ha hd _
   have e : a = n := by omega
   subst e
   rw [restFrom_end, List.append_nil]
   refine Ev.step (f := fun _ => some ((a : Int), acc)) (fun k => ?_) (Ev.now _)
   simp only [spec_paOf.l0]
   rw [if_neg (by omega)]
  | succ d ihd =>
   intro a acc ha hd hacc
   have han : a < n := by omega
   have inner : ∀ e b acc, a < b → b ≤ n → n - b = e → List.length acc ≤ 12 * a + b - 1 → Ev (fun k => spec_paOf.l1 k (tabB n f) (a : Int) (b : Int) (n : Int) (a : Int) (n : Int) acc) ((n : Int), acc ++ (rowFrom n (f a) a b ++ restFrom n f (a + 1))) := by
    intro e
    induction e with
    | zero =>
     intro b acc hab hb he hacc
     have e : b = n := by omega
     subst e
     rw [rowFrom_end _ _ _ _ (Nat.le_refl _), List.nil_append]
     refine Ev.step (f := fun k => spec_paOf.l0 k (tabB b f) (b : Int) ((a + 1 : Nat) : Int) (b : Int) acc) (fun k => ?_) (ihd (a + 1) acc (by omega) (by omega) (by omega))
     simp only [spec_paOf.l1]
     rw [if_neg (by rw [tabB_length]; omega), succ_cast han (by omega)]
    | succ e ihe =>
     intro b acc hab hb he hacc
     have hbn : b < n := by omega
     have hg : (rowB n (f a)).length = n := rowB_length _ _
     have hv : rdOf false (rowB n (f a)) (b : Int) = f a b := by rw [rdOfB_at (by rw [hg]; exact hbn), rowB_get]
     rw [rowFrom_step hbn]
     by_cases c : f a b = true
     ·refine Ev.step (f := fun k => spec_paOf.l1 k (tabB n f) (a : Int) ((b + 1 : Nat) : Int) (n : Int) (a : Int) (n : Int) (acc ++ [⟨(a : Int), (b : Int)⟩])) (fun k => ?_) (by
       have := ihe (b + 1) (acc ++ [⟨(a : Int), (b : Int)⟩]) (by omega) (by omega) (by omega) (by simp; omega)
       rw [if_pos c]
       rw [List.append_assoc] at this ⊢
       exact this)
      simp only [spec_paOf.l1]
      rw [if_pos (by rw [tabB_length]; omega), if_pos (by omega), if_pos (by rw [tabB_length]; omega), if_pos (by omega), tabB_get han, if_pos (by rw [hg]; omega), hv, if_pos c, if_pos (by omega), succ_cast hbn (by omega)]
     ·refine Ev.step (f := fun k => spec_paOf.l1 k (tabB n f) (a : Int) ((b + 1 : Nat) : Int) (n : Int) (a : Int) (n : Int) acc) (fun k => ?_) (by
       have := ihe (b + 1) acc (by omega) (by omega) (by omega) (by omega)
       rw [if_neg c, List.nil_append]
       exact this)
      simp only [spec_paOf.l1]
      rw [if_pos (by rw [tabB_length]; omega), if_pos (by omega), if_pos (by rw [tabB_length]; omega), if_pos (by omega), tabB_get han, if_pos (by rw [hg]; omega), hv, if_neg c, succ_cast hbn (by omega)]
   rw [restFrom_step han]
   refine Ev.step (f := fun k => spec_paOf.l1 k (tabB n f) (a : Int) ((a + 1 : Nat) : Int) (n : Int) (a : Int) (n : Int) acc) (fun k => ?_) (inner (n - (a + 1)) (a + 1) acc (by omega) (by omega) rfl (by omega))
   simp only [spec_paOf.l0]
   rw [if_pos (by omega), succ_cast han (by omega)]
 refine Ev.congr (f := fun k => spec_paOf.l0 k (tabB n f) (n : Int) 0 (n : Int) []) (fun k => ?_) (outer n 0 [] (Nat.zero_le _) rfl (by simp))
 unfold spec_paOf.f
 rw [tabB_length]

end Go.Proofs.YtedfcbbklhfgcaaDoor.Plain

/- The reference's other party: friends are who were none. No condition but that there are at most twelve people. -/
namespace Go.Proofs.YtedfcbbklhfgcaaDoor.Plain
open Go.RowKit Go.Proofs.YtedfcbbklhfgcaaDoorW.PrintWords Go.Proofs.YtedfcbbklhfgcaaDoorW.PrintLast
set_option linter.unusedVariables false
open Q

theorem tabB_set {n : Nat} (g : Nat → Nat → Bool) {a b : Nat} (ha : a < n) (hb : b < n) (v : Bool) :
  (tabB n g).set a ((rd_L4 (tabB n g) (a : Int)).set b v) = tabB n (fun c d => if c = a ∧ d = b then v else g c d) := by
 rw [tabB_get ha, rowB_set]
 apply List.ext_getElem
 ·simp [tabB_length]
 ·intro i h1 h2
  rw [tabB_length] at h2
  rw [List.getElem_set]
  by_cases e : a = i
  ·subst e
   rw [if_pos rfl, tabB_getElem]
   apply rowB_congr
   intro c _
   simp
  ·rw [if_neg e, tabB_getElem, tabB_getElem]
   apply rowB_congr
   intro c _
   rw [if_neg (fun q => e q.1.symm)]

theorem mem_pairsF {n : Nat} {f : Nat → Nat → Bool} {x : Pr} : x ∈ pairsF n f ↔ ∃ a b : Nat, a < b ∧ b < n ∧ f a b = true ∧ x = ⟨(a : Int), (b : Int)⟩ := by
 unfold pairsF restFrom
 rw [List.drop_zero, List.mem_flatMap]
 constructor
 ·rintro ⟨a, ha, h⟩
  unfold rowFrom at h
  rw [List.mem_filterMap] at h
  obtain ⟨b, hb, h⟩ := h
  have hb2 : a + 1 ≤ b ∧ b < n := by
   obtain ⟨i, hi, rfl⟩ := List.mem_iff_getElem.1 hb
   rw [List.length_drop, List.length_range] at hi
   rw [List.getElem_drop, List.getElem_range]
   omega
  by_cases c : f a b = true
  ·rw [if_pos c] at h
   exact ⟨a, b, by omega, hb2.2, c, (Option.some.inj h).symm⟩
  ·rw [if_neg c] at h
   exact absurd h (by simp)
 ·rintro ⟨a, b, hab, hb, h, rfl⟩
  refine ⟨a, by simp; omega, ?_⟩
  unfold rowFrom
  rw [List.mem_filterMap]
  refine ⟨b, ?_, by rw [if_pos h]⟩
  rw [List.mem_iff_getElem]
  refine ⟨b - (a + 1), by rw [List.length_drop, List.length_range]; omega, ?_⟩
  rw [List.getElem_drop, List.getElem_range]
  omega

theorem rowFrom_length (n : Nat) (f : Nat → Bool) (a b : Nat) : (rowFrom n f a b).length ≤ n := by
 unfold rowFrom
 refine Nat.le_trans (List.length_filterMap_le _ _) ?_
 rw [List.length_drop, List.length_range]; omega
theorem pairsF_length {n : Nat} (hn : n ≤ 12) (f : Nat → Nat → Bool) : (pairsF n f).length ≤ 1000 := by
 have q : ∀ d a, n - a = d → a ≤ n → (restFrom n f a).length ≤ 12 * d := by
  intro d
  induction d with
  | zero =>
   intro a h1 h2
   have e : a = n := by omega
   subst e
   rw [restFrom_end]; simp
  | succ d ih =>
   intro a h1 h2
   rw [restFrom_step (by omega), List.length_append]
   have h3 := ih (a + 1) (by omega) (by omega)
   have h4 := rowFrom_length n (f a) a (a + 1)
   omega
 have := q n 0 rfl (Nat.zero_le _)
 unfold pairsF
 omega

/-- The cells that stand before a place are turned round. -/
def turnB (f : Nat → Nat → Bool) (i j : Nat) : Nat → Nat → Bool := fun a b => if a < i ∨ (a = i ∧ b < j) then !f a b else f a b

theorem paOther_ev {n : Nat} {l : List Pr} (hn : n ≤ 12) (hr : Right n l) (h : l.length ≤ 9223372036854775807) : Ev (fun k => spec_paOther.f k (n : Int) l) ((n : Int), pairsF n (fun a b => !adj l a b)) := by
 unfold spec_paOther.f
 refine Ev.bind (paTable_ev hn hr h) ?_
 rw [tabB_length]
 generalize adj l = f
 have q := ev_up (n := n) (loop := fun k i => spec_paOther.l0 k (tabB n (turnB f i 0)) (n : Int) (i : Int)) (r := fun _ => ((n : Int), pairsF n (fun a b => !f a b)))
  (by
   refine Ev.step (f := fun k => (spec_paOf.f k (tabB n (turnB f n 0))).bind fun bt => some (bt.1, bt.2)) (fun k => ?_) ?_
   ·simp only [spec_paOther.l0]
    rw [if_neg (by omega)]
   ·refine Ev.bind (paOf_ev hn _) ?_
    have e : tabB n (turnB f n 0) = tabB n (fun a b => !f a b) := tabB_congr (fun a b ha hb => by unfold turnB; rw [if_pos (Or.inl ha)])
    have e2 : pairsF n (turnB f n 0) = pairsF n (fun a b => !f a b) := by
     unfold pairsF restFrom
     rw [List.drop_zero]
     have : ∀ a ∈ List.range n, rowFrom n (turnB f n 0 a) a (a + 1) = rowFrom n (fun b => !f a b) a (a + 1) := by
      intro a ha
      have ha2 : a < n := by simpa using ha
      unfold rowFrom turnB
      simp only [if_pos (Or.inl ha2 : a < n ∨ _)]
     rw [List.flatMap_def, List.flatMap_def, List.map_congr_left this]
    show Ev (fun _ => some ((n : Int), pairsF n (turnB f n 0))) _
    rw [e2]
    exact Ev.now _)
  (fun i hi ih => by
   have q2 := ev_up (n := n) (loop := fun k j => spec_paOther.l1 k (tabB n (turnB f i j)) (i : Int) (n : Int) (i : Int) (n : Int) (j : Int)) (r := fun _ => ((n : Int), pairsF n (fun a b => !f a b)))
    (by
     have e : tabB n (turnB f i n) = tabB n (turnB f (i + 1) 0) := tabB_congr (fun a b ha hb => by
      unfold turnB
      have : (a < i ∨ a = i ∧ b < n) ↔ (a < i + 1 ∨ a = i + 1 ∧ b < 0) := by omega
      simp only [this])
     refine Ev.step (f := fun k => spec_paOther.l0 k (tabB n (turnB f (i + 1) 0)) (n : Int) ((i + 1 : Nat) : Int)) (fun k => ?_) ih
     simp only [spec_paOther.l1]
     rw [if_neg (by omega), e, succ_cast hi (by omega)])
    (fun j hj ih2 => by
     have lr : (rd_L4 (tabB n (turnB f i j)) (i : Int)).length = n := by rw [tabB_get hi, rowB_length]
     have v : rdOf false (rd_L4 (tabB n (turnB f i j)) (i : Int)) (j : Int) = f i j := by
      rw [rdOfB_at (by rw [lr]; exact hj)]
      simp only [tabB_get hi, rowB_get]
      unfold turnB
      rw [if_neg (by omega)]
     have e : (tabB n (turnB f i j)).set i ((rd_L4 (tabB n (turnB f i j)) (i : Int)).set j (!f i j)) = tabB n (turnB f i (j + 1)) := by
      rw [tabB_set _ hi hj]
      apply tabB_congr
      intro c d _ _
      unfold turnB
      by_cases p : c = i ∧ d = j
      ·obtain ⟨rfl, rfl⟩ := p
       rw [if_pos ⟨rfl, rfl⟩, if_pos (by omega)]
      ·rw [if_neg p]
       have : (c < i ∨ c = i ∧ d < j) ↔ (c < i ∨ c = i ∧ d < j + 1) := by omega
       simp only [this]
     refine Ev.step (f := fun k => spec_paOther.l1 k (tabB n (turnB f i (j + 1))) (i : Int) (n : Int) (i : Int) (n : Int) ((j + 1 : Nat) : Int)) (fun k => ?_) ih2
     simp only [spec_paOther.l1]
     rw [if_pos (by omega), if_pos (by omega), if_pos (by rw [tabB_length]; omega), if_pos (by omega), if_pos (by rw [lr]; omega), v, Int.toNat_natCast, Int.toNat_natCast, e, succ_cast hj (by omega)]) 0 (Nat.zero_le _)
   refine Ev.step (f := fun k => spec_paOther.l1 k (tabB n (turnB f i 0)) (i : Int) (n : Int) (i : Int) (n : Int) 0) (fun k => ?_) (by simpa using q2)
   simp only [spec_paOther.l0]
   rw [if_pos (by omega), tabB_length]) 0 (Nat.zero_le _)
 have e0 : turnB f 0 0 = f := by
  funext a b
  unfold turnB
  rw [if_neg (by omega)]
 rw [e0] at q
 exact q
end Go.Proofs.YtedfcbbklhfgcaaDoor.Plain
/- The program's TwoTables returns what the reference's returns, for all arguments. No condition. -/
namespace Go.Proofs.YtedfcbbklhfgcaaDoor.Pure
open Go.RowKit Go.Proofs.YtedfcbbklhfgcaaDoorW.PrintWords Go.Proofs.YtedfcbbklhfgcaaDoorW.PrintLast
set_option linter.unusedVariables false
open Q Plain

/-- Strangers, two different people. -/
def notF (f : Nat → Nat → Bool) : Nat → Nat → Bool := fun a b => decide (a ≠ b) && !f a b
theorem others_ev {n : Nat} (hn : n ≤ 12) (f : Nat → Nat → Bool) : Ev (fun k => impl_table_others.f k (tabF n f)) (tabF n (notF f)) := by
 have hT : (tabF n f).length = n := tabF_length _ _
 unfold impl_table_others.f
 rw [hT]
 refine ev_if (fun _ => ?_) (fun c => absurd (by omega) c)
 refine ev_if (fun _ => ?_) (fun c => absurd (by omega) c)
 rw [Int.toNat_natCast]
 have hall : maskOf (fun _ => true) n = 2 ^ n - 1 := by
  apply Nat.eq_of_testBit_eq
  intro j
  rw [maskOf_bit, Nat.testBit_two_pow_sub_one, Bool.and_true]
 have hpos : 0 < 2 ^ n := Nat.two_pow_pos n
 have hfull : IntKind.u16.wrap (shl .u16 1 (n : Int) - 1) = ((maskOf (fun _ => true) n : Nat) : Int) := by
  have := mask16 (f := fun _ => true) (n := n) (by omega)
  rw [shl16 (by omega), show ((2 ^ n : Nat) : Int) - 1 = ((maskOf (fun _ => true) n : Nat) : Int) by omega]
  exact wraps_u16 _ (by omega) (by omega)
 have q := ev_up (n := n) (loop := fun k i => impl_table_others.l0 k (tabF n f) ((tabF n (notF f)).take i ++ List.replicate (n - i) 0) (n : Int) (i : Int)) (r := fun _ => tabF n (notF f))
  (Ev.step (f := fun _ => some (tabF n (notF f))) (fun k => by
   simp only [impl_table_others.l0]
   rw [if_neg (by omega), Nat.sub_self, List.replicate_zero, List.append_nil, List.take_of_length_le (by rw [tabF_length]; omega)]) (Ev.now _))
  (fun i hi ih => by
   have hv : Go.bits .andNot .u16 (Go.bits .andNot .u16 (IntKind.u16.wrap ((shl .u16 1 (n : Int)) - 1)) (rd (tabF n f) (i : Int))) (shl .u16 1 (i : Int)) = rd (tabF n (notF f)) (i : Int) := by
    rw [hfull, tabF_get hi, tabF_get hi, andNot16 _ _ (by omega), shl16 (by omega), mask_one hi, andNot16 _ _ (by omega)]
    congr 1
    apply maskOf_congr
    intro b hb
    unfold notF
    by_cases e : b = i
    ·subst e; simp
    ·have e2 : i ≠ b := fun z => e z.symm
     simp [e, e2]
   have hc := copy_step (tabF n (notF f)) i (by rw [tabF_length]; exact hi)
   rw [tabF_length] at hc
   refine Ev.step (f := fun k => impl_table_others.l0 k (tabF n f) ((tabF n (notF f)).take (i + 1) ++ List.replicate (n - (i + 1)) 0) (n : Int) ((i + 1 : Nat) : Int)) (fun k => ?_) ih
   simp only [impl_table_others.l0]
   rw [hT, hv, hc, if_pos (by omega), if_pos (by omega), if_pos (by omega), if_pos (by rw [List.length_append, List.length_take, List.length_replicate, tabF_length]; omega), succ_cast hi (by omega)]) 0 (Nat.zero_le _)
 simpa using q
theorem adj_pairs {n : Nat} {g : Nat → Nat → Bool} (hs : ∀ a b, g a b = g b a) {a b : Nat} (ha : a < n) (hb : b < n) : adj (pairsF n g) a b = (decide (a ≠ b) && g a b) := by
 rw [Bool.eq_iff_iff, adj_true, Bool.and_eq_true, decide_eq_true_eq]
 constructor
 ·rintro ⟨x, hx, h⟩
  obtain ⟨c, d, hcd, hd, hg, rfl⟩ := mem_pairsF.1 hx
  rcases h with ⟨h1, h2⟩ | ⟨h1, h2⟩
  ·have e1 : c = a := by have h1' : ((c : Nat) : Int) = (a : Int) := h1; omega
   have e2 : d = b := by have h2' : ((d : Nat) : Int) = (b : Int) := h2; omega
   subst e1; subst e2
   exact ⟨by omega, hg⟩
  ·have e1 : c = b := by have h1' : ((c : Nat) : Int) = (b : Int) := h1; omega
   have e2 : d = a := by have h2' : ((d : Nat) : Int) = (a : Int) := h2; omega
   subst e1; subst e2
   exact ⟨by omega, by rw [hs]; exact hg⟩
 ·rintro ⟨h1, h2⟩
  rcases Nat.lt_or_ge a b with z | z
  ·exact ⟨_, mem_pairsF.2 ⟨a, b, z, hb, h2, rfl⟩, Or.inl ⟨rfl, rfl⟩⟩
  ·exact ⟨_, mem_pairsF.2 ⟨b, a, by omega, ha, by rw [hs]; exact h2, rfl⟩, Or.inr ⟨rfl, rfl⟩⟩
theorem pairs_right {n : Nat} {g : Nat → Nat → Bool} : Right n (pairsF n g) := by
 intro x hx
 obtain ⟨c, d, hcd, hd, hg, rfl⟩ := mem_pairsF.1 hx
 show 0 ≤ (c : Int) ∧ (c : Int) < (d : Int) ∧ (d : Int) < (n : Int)
 omega
/-- What both sides tell. -/
noncomputable def tell (n : Int) (l : List Pr) : List Int × Bool := if party n l = true then tellT n.toNat (notF (adj l)) else ([], false)
theorem tell_len (n : Int) (l : List Pr) : (tell n l).1.length ≤ 12 := by
 unfold tell
 by_cases c : party n l = true
 ·rw [if_pos c]
  obtain ⟨m, rfl, hm, _⟩ := party_right c
  have := tellT_length m (notF (adj l))
  rw [Int.toNat_natCast]
  omega
 ·rw [if_neg c]; simp
theorem impl_ev (n : Int) (l : List Pr) (h : l.length ≤ 9223372036854775807) : Ev (fun k => impl_TwoTables.f k n l) (tell n l) := by
 unfold impl_TwoTables.f tell
 refine Ev.bind (isParty_ev n l h) ?_
 refine ev_if (fun c => ?_) (fun c => ?_)
 ·rw [if_pos c]
  obtain ⟨m, rfl, hm, hr, _⟩ := party_right c
  rw [Int.toNat_natCast]
  refine Ev.bind (table_ev hm hr h) ?_
  refine Ev.bind (others_ev hm (adj l)) ?_
  exact Ev.bind (apartI_ev hm (notF (adj l)) (fun a b => by
   unfold notF
   rw [adj_comm l a b, decide_eq_decide.2 (show a ≠ b ↔ b ≠ a from ⟨fun q z => q z.symm, fun q z => q z.symm⟩)])) (Ev.now _)
 ·rw [if_neg c]; exact Ev.now _
theorem spec_ev (n : Int) (l : List Pr) (h : l.length ≤ 9223372036854775807) : Ev (fun k => spec_TwoTables.f k n l) (tell n l) := by
 unfold spec_TwoTables.f tell
 refine Ev.bind (paGood_ev n l h) ?_
 refine ev_if (fun c => ?_) (fun c => ?_)
 ·rw [if_pos c]
  obtain ⟨m, rfl, hm, hr, _⟩ := party_right c
  rw [Int.toNat_natCast]
  refine Ev.bind (paOther_ev hm hr h) ?_
  have hp := pairsF_length hm (fun a b => !adj l a b)
  have hA := apartS_ev hm (pairs_right (n := m) (g := fun a b => !adj l a b)) (by omega)
  have e : tellT m (adj (pairsF m (fun a b => !adj l a b))) = tellT m (notF (adj l)) := tellT_congr (fun a b ha hb => by
   rw [adj_pairs (fun a b => by rw [adj_comm l a b]) ha hb]; rfl)
  rw [e] at hA
  exact Ev.bind hA (Ev.now _)
 ·rw [if_neg c]; exact Ev.now _

theorem FnExactTwoTables : laws_FnExactTwoTables.Pure := by
 intro n l _ hl _
 refine Ev.rounds (g := fun k => laws_FnExactTwoTables.f k n l) ?_
 unfold laws_FnExactTwoTables.f
 refine ev_bind0 (szParty_eq n l 1048576 (by omega) (by omega) hl) ?_
 refine ev_if (fun _ => Ev.now _) (fun hb => ?_)
 have hs : l.length ≤ 1048576 := by
  by_cases h : (1048576 : Int) < (l.length : Int)
  ·rw [if_pos h] at hb; omega
  ·omega
 have hTl := toParty_ev n l (by omega)
 have hl2 : (l.map toP).length ≤ 1048576 := by rw [List.length_map]; exact hs
 have hS := spec_ev n (l.map toP) (by omega)
 have hI := impl_ev n (l.map toP) (by omega)
 have hp := tell_len n (l.map toP)
 generalize tell n (l.map toP) = z at hS hI hp
 obtain ⟨ps, ok1⟩ := z
 replace hp : ps.length ≤ 12 := hp
 refine Ev.bind hTl ?_
 refine Ev.bind hS ?_
 refine Ev.bind hTl ?_
 refine Ev.bind hI ?_
 refine Ev.bind (eqIntS_ev ps (by omega)) ?_
 refine ev_if (fun _ => ?_) (fun h => absurd rfl h)
 show Ev (fun k => laws_FnExactTwoTables.j0 k ps ok1 ps ok1 (ok1 != ok1) n l n (l.map toP)) true
 rw [show (ok1 != ok1) = false by simp]
 refine Ev.step (f := fun k => (laws_toParty.f k n l).bind fun bt667 => ((laws_eqParty.f k n (l.map toP) bt667.1 bt667.2).bind fun t671 => (if t671 = true then ((laws_markParty.f k n (l.map toP) 1).bind fun bt672 => (if bt672.1 < 0 then (laws_FnExactTwoTables.j1 k ps ok1 ps true n l) else ((laws_eqIntS.f k ps ps).bind fun t674 => (if t674 = true then (laws_FnExactTwoTables.j1 k ps ok1 ps (ok1 != ok1) n l) else (laws_FnExactTwoTables.j1 k ps ok1 ps true n l))))) else (some false)))) (fun k => by simp only [laws_FnExactTwoTables.j0]; rfl) ?_
 refine Ev.bind hTl ?_
 refine Ev.bind (eqParty_ev n (l.map toP) (by simp only [List.length_map]; omega)) ?_
 refine ev_if (fun _ => ?_) (fun h => absurd rfl h)
 refine Ev.bind (markParty_ev n (l.map toP) (by simp only [List.length_map]; omega)) ?_
 refine ev_if (fun (q : (1 + 2 * ((l.map toP).length : Int)) < 0) => by omega) (fun _ => ?_)
 refine Ev.bind (eqIntS_ev ps (by omega)) ?_
 refine ev_if (fun _ => ?_) (fun h => absurd rfl h)
 show Ev (fun k => laws_FnExactTwoTables.j1 k ps ok1 ps (ok1 != ok1) n l) true
 rw [show (ok1 != ok1) = false by simp]
 refine Ev.step (f := fun k => (laws_markIntS.f k ps 1).bind fun bt675 => ((laws_heldIntS.f k bt675.2 1).bind fun t677 => (if t677 < 0 then (some false) else (if t677 = bt675.1 then ((laws_toParty.f k n l).bind fun bt678 => ((impl_TwoTables.f k bt678.1 bt678.2).bind fun bt682 => ((laws_eqIntS.f k bt682.1 ps).bind fun t686 => (if t686 = true then (laws_FnExactTwoTables.j2 k bt675.2 bt675.1 (bt682.2 != ok1)) else (laws_FnExactTwoTables.j2 k bt675.2 bt675.1 true))))) else (some false))))) (fun k => by simp only [laws_FnExactTwoTables.j1]; rfl) ?_
 refine Ev.bind (markIntS_ev ps 1 (by omega) (by omega) (by omega)) ?_
 refine Ev.bind (heldIntS_ev _ 1 (by omega) (by omega) (by omega)) ?_
 refine ev_if (fun (q : (1 + ((ps.length : Nat) : Int)) < 0) => by omega) (fun _ => ?_)
 refine ev_if (fun _ => ?_) (fun h => absurd rfl h)
 refine Ev.bind hTl ?_
 refine Ev.bind hI ?_
 refine Ev.bind (eqIntS_ev ps (by omega)) ?_
 refine ev_if (fun _ => ?_) (fun h => absurd rfl h)
 show Ev (fun k => laws_FnExactTwoTables.j2 k (marksI 1 ps.length) (1 + (ps.length : Int)) (ok1 != ok1)) true
 rw [show (ok1 != ok1) = false by simp]
 refine Ev.step (f := fun k => (laws_heldIntS.f k (marksI 1 ps.length) 1).bind fun t687 => (if t687 < 0 then (some false) else (if t687 = (1 + (ps.length : Int)) then (some true) else (some false)))) (fun k => by simp only [laws_FnExactTwoTables.j2]; rfl) ?_
 refine Ev.bind (heldIntS_ev _ 1 (by omega) (by omega) (by omega)) ?_
 refine ev_if (fun (q : (1 + ((ps.length : Nat) : Int)) < 0) => by omega) (fun _ => ?_)
 refine ev_if (fun _ => ?_) (fun h => absurd rfl h)
 exact Ev.now _
end Go.Proofs.YtedfcbbklhfgcaaDoor.Pure
