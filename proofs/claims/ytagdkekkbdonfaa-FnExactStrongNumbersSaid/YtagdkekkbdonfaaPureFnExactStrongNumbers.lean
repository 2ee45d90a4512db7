import Derived.Test.YtagdkekkbdonfaaQ0
import Derived.Test.YtagdkekkbdonfaaQ2
import Derived.Test.YtagdkekkbdonfaaQ6
import Derived.Test.YtagdkekkbdonfaaQ8
import Derived.Test.YtagdkekkbdonfaaQ9
import Derived.Test.YtagdkekkbdonfaaQ15
import Derived.Test.YtagdkekkbdonfaaQ23
import Derived.Test.YtagdkekkbdonfaaQ24
import Derived.Test.YtagdkekkbdonfaaQ26
import Derived.Test.YtagdkekkbdonfaaQ28
import Derived.Test.YtagdkekkbdonfaaQ29
import Derived.Test.YtagdkekkbdonfaaQ30
import Derived.Test.YtagdkekkbdonfaaQ31
import Derived.Test.YtagdkekkbdonfaaQ32
import Derived.Test.YtagdkekkbdonfaaQ35
import Derived.Test.YtagdkekkbdonfaaQ37
import Derived.Test.YtagdkekkbdonfaaQ38
import Derived.Test.YtagdkekkbdonfaaQ39
import Derived.Test.YtagdkekkbdonfaaQ40
import Derived.Test.YtagdkekkbdonfaaSayFnExactStrongNumbers
/- Plain lemmas over rounds, lists and whole numbers, for the pure statements of this seat. No condition. -/
namespace Go.Proofs.Ytagdkekkbdonfaa.Plain
open Go.RowKit Go.Proofs.YtagdkekkbdonfaaW.PrintWords Go.Proofs.YtagdkekkbdonfaaW.PrintLast
set_option linter.unusedVariables false

theorem wrap_id {x : Int} (h0 : -9223372036854775808 ≤ x) (h1 : x ≤ 9223372036854775807) : wrap64 x = x := by
  unfold wrap64
  omega

theorem rd_at {l : List Int} {i : Nat} (h : i < l.length) : rd l (i : Int) = l[i] := by
  simp [rd, List.getD, h]

theorem ev_some {α : Type} {g : Nat → Option α} {r : α} (h : ∀ k, g k = some r) : Ev g r := ⟨0, fun k _ => h k⟩

theorem ev_bind0 {α β : Type} {g : Option α} {f : Nat → α → Option β} {a : α} {r : β} (h : g = some a) (k : Ev (fun n => f n a) r) : Ev (fun n => g.bind (f n)) r := by
  obtain ⟨K, hK⟩ := k
  refine ⟨K, fun n hn => ?_⟩
  show g.bind (f n) = some r
  rw [h]
  exact hK n hn

theorem ev_if {α : Type} {c : Prop} [Decidable c] {f g : Nat → Option α} {r : α} (hf : c → Ev f r) (hg : ¬ c → Ev g r) : Ev (fun n => if c then f n else g n) r := by
  by_cases h : c
  · obtain ⟨K, hK⟩ := hf h
    exact ⟨K, fun n hn => (if_pos h).trans (hK n hn)⟩
  · obtain ⟨K, hK⟩ := hg h
    exact ⟨K, fun n hn => (if_neg h).trans (hK n hn)⟩

/-- A loop over an index, from any index on, in one shape. -/
theorem ev_up {α : Type} {n : Nat} {loop : Nat → Nat → Option α} {r : Nat → α} (hend : Ev (fun k => loop k n) (r n)) (hstep : ∀ i, i < n → (Ev (fun k => loop k (i + 1)) (r (i + 1)) → Ev (fun k => loop k i) (r i))) :
    ∀ i, i ≤ n → Ev (fun k => loop k i) (r i) := by
  intro i hi
  have : ∀ d i, i ≤ n → n - i = d → Ev (fun k => loop k i) (r i) := by
    intro d
    induction d with
    | zero =>
      intro i hi hd
      have e : i = n := by omega
      rw [e]; exact hend
    | succ d ih =>
      intro i hi hd
      exact hstep i (by omega) (ih (i + 1) (by omega) (by omega))
  exact this (n - i) i hi rfl
theorem all_step (f : Nat → Bool) {m i : Nat} (h : i < m) : ((List.range m).drop i).all f = (f i && ((List.range m).drop (i + 1)).all f) := by
  rw [List.drop_eq_getElem_cons (by simpa using h), List.all_cons, List.getElem_range]
theorem all_end (f : Nat → Bool) {m i : Nat} (h : m ≤ i) : ((List.range m).drop i).all f = true := by
  rw [List.drop_of_length_le (by simpa using h)]; rfl
theorem succ_cast {i n : Nat} (h : i < n) (hn : n ≤ 9223372036854775807) : wrap64 ((i : Int) + 1) = ((i + 1 : Nat) : Int) := by
  rw [wrap_id (by omega) (by omega)]; rfl
theorem pred_cast {i : Nat} (h : 1 ≤ i) (hn : i ≤ 9223372036854775807) : wrap64 ((i : Int) - 1) = ((i - 1 : Nat) : Int) := by
  rw [wrap_id (by omega) (by omega)]; omega
end Go.Proofs.Ytagdkekkbdonfaa.Plain

/- The law's own functions over lists of whole numbers: copies, equality, bounds. No condition but lengths that fit. -/
namespace Go.Proofs.Ytagdkekkbdonfaa.Plain
open Go.RowKit Go.Proofs.YtagdkekkbdonfaaW.PrintWords Go.Proofs.YtagdkekkbdonfaaW.PrintLast
set_option linter.unusedVariables false
open Q

theorem copy_step (l : List Int) (i : Nat) (h : i < l.length) :
    (l.take i ++ List.replicate (l.length - i) (0 : Int)).set ((i : Int)).toNat (rd l (i : Int)) = l.take (i + 1) ++ List.replicate (l.length - (i + 1)) (0 : Int) := by
  have e : l.length - i = (l.length - (i + 1)) + 1 := by omega
  have hl : (l.take i).length = i := by simp; omega
  rw [Int.toNat_natCast, rd_at h, e, List.replicate_succ, List.set_append_right _ _ (by omega), hl, Nat.sub_self, List.set_cons_zero, List.take_succ_eq_append_getElem h, List.append_assoc]
  rfl

theorem eqIntS_ev (l : List Int) (h : l.length ≤ 9223372036854775807) : Ev (fun k => laws_eqIntS.f k l l) true := by
  refine Ev.congr (f := fun k => laws_eqIntS.l0 k l l 0) (fun k => ?_) ?_
  · unfold laws_eqIntS.f
    rw [if_pos rfl]
  · exact ev_up (n := l.length) (loop := fun k i => laws_eqIntS.l0 k l l (i : Int)) (r := fun _ => true)
      (Ev.step (f := fun _ => some true) (fun k => by simp [laws_eqIntS.l0]) (Ev.now true))
      (fun i hi ih => Ev.step (f := fun k => laws_eqIntS.l0 k l l ((i + 1 : Nat) : Int)) (fun k => by
        simp only [laws_eqIntS.l0]
        rw [if_pos (by omega), if_pos (by omega), if_pos (by omega), if_pos trivial, succ_cast hi h]) ih) 0 (Nat.zero_le _)

theorem l1In_eq (a b c : Int) : spec_l1In.f a b c = some (decide (b ≤ a) && decide (a ≤ c)) := by
  unfold spec_l1In.f
  by_cases h : b ≤ a <;> simp [h]

theorem within_eq (a b c : Int) : impl_within.f a b c = some (decide (b ≤ a) && decide (a ≤ c)) := by
  unfold impl_within.f
  by_cases h : b ≤ a <;> simp [h]

end Go.Proofs.Ytagdkekkbdonfaa.Plain

/- Is a number in a list: the reference's way. No condition but a length that fits. -/
namespace Go.Proofs.Ytagdkekkbdonfaa.Plain
open Go.RowKit Go.Proofs.YtagdkekkbdonfaaW.PrintWords Go.Proofs.YtagdkekkbdonfaaW.PrintLast
set_option linter.unusedVariables false
open Q

end Go.Proofs.Ytagdkekkbdonfaa.Plain

/- Lists that hold each number less than n once: both sides' tests tell the same. No condition. -/
namespace Go.Proofs.Ytagdkekkbdonfaa.Plain
open Go.RowKit Go.Proofs.YtagdkekkbdonfaaW.PrintWords Go.Proofs.YtagdkekkbdonfaaW.PrintLast
set_option linter.unusedVariables false
open Q

end Go.Proofs.Ytagdkekkbdonfaa.Plain

/- Parties: both sides' tests, and the law's own functions over parties. No condition but lengths that fit. -/
namespace Go.Proofs.Ytagdkekkbdonfaa.Plain
open Go.RowKit Go.Proofs.YtagdkekkbdonfaaW.PrintWords Go.Proofs.YtagdkekkbdonfaaW.PrintLast
set_option linter.unusedVariables false
open Q

abbrev Pr := S71
abbrev rdP (l : List Pr) (i : Int) : Pr := rd_T71 l i

theorem rdP_at {l : List Pr} {i : Nat} (h : i < l.length) : rd_T71 l (i : Int) = l[i] := by
  simp [rd_T71, List.getD, h]

def pairOk (n : Int) (x : Pr) : Bool := decide (0 ≤ x.f0) && (decide (x.f0 < x.f1) && decide (x.f1 < n))
def lessB (x y : Pr) : Bool := decide (x.f0 < y.f0) || (decide (x.f0 = y.f0) && decide (x.f1 < y.f1))
/-- The pair at an index is right, and comes behind the one before. -/
def okAt (n : Int) (l : List Pr) (i : Nat) : Bool := pairOk n (rdP l i) && (decide (i = 0) || lessB (rdP l ((i : Int) - 1)) (rdP l i))
def party (n : Int) (l : List Pr) : Bool := (decide (0 ≤ n) && decide (n ≤ 12)) && (List.range l.length).all (okAt n l)

theorem paLess_eq (x y : Pr) : spec_paLess.f x.f0 x.f1 y.f0 y.f1 = some (lessB x y) := by
  unfold spec_paLess.f lessB
  by_cases h : x.f0 < y.f0
  · rw [if_pos h, decide_eq_true h]; rfl
  · rw [if_neg h, decide_eq_false h]
    by_cases h2 : x.f0 = y.f0
    · rw [if_pos h2, decide_eq_true h2]; simp
    · rw [if_neg h2, decide_eq_false h2]; simp

/-- Compared as the library compares whole numbers. -/
def cmpI (a b : Int) : Int := if a < b then -1 else if a > b then 1 else 0
theorem compare_eq (a b : Int) : cmp_Compare_int.f a b = some (cmpI a b) := by
  unfold cmp_Compare_int.f cmp_isNaN_int.f cmpI
  simp
  by_cases h : a < b
  · simp [h]
  · by_cases h2 : b < a <;> simp [h, h2]

theorem or_two (a b : Int) : Ev (fun k => cmp_Or_int.f k [a, b]) (if a = 0 then b else a) := by
  refine Ev.of (fun k => cmp_Or_int.mono [a, b] k) (k := 3) ?_
  by_cases h : a = 0
  · by_cases h2 : b = 0
    · simp [cmp_Or_int.f, cmp_Or_int.l0, rd, h, h2, wrap64]
    · simp [cmp_Or_int.f, cmp_Or_int.l0, rd, h, h2, wrap64]
  · simp [cmp_Or_int.f, cmp_Or_int.l0, rd, h]

theorem comparePairs_ev (x y : Pr) : Ev (fun k => impl_comparePairs.f k x.f0 x.f1 y.f0 y.f1) (if cmpI x.f0 y.f0 = 0 then cmpI x.f1 y.f1 else cmpI x.f0 y.f0) := by
  unfold impl_comparePairs.f
  refine ev_bind0 (compare_eq _ _) ?_
  refine ev_bind0 (compare_eq _ _) ?_
  exact Ev.bind (f := fun _ t => some t) (or_two _ _) (Ev.now _)

theorem compare_less (x y : Pr) : ((if cmpI x.f0 y.f0 = 0 then cmpI x.f1 y.f1 else cmpI x.f0 y.f0) ≥ 0) ↔ lessB x y = false := by
  unfold cmpI lessB
  by_cases h1 : x.f0 < y.f0
  · simp [h1]
  · by_cases h2 : y.f0 < x.f0
    · have : ¬ x.f0 = y.f0 := by omega
      simp [h1, h2, this]
    · have e : x.f0 = y.f0 := by omega
      by_cases h3 : x.f1 < y.f1
      · simp [e, h3]
      · by_cases h4 : y.f1 < x.f1 <;> simp [e, h3, h4]

theorem areCrowd_eq (n : Int) : impl_areCrowd.f n = some (decide (0 ≤ n) && decide (n ≤ 12)) := by
  unfold impl_areCrowd.f
  rw [within_eq]; rfl

theorem isParty_ev (n : Int) (l : List Pr) (h : l.length ≤ 9223372036854775807) : Ev (fun k => impl_IsParty.f k n l) (party n l) := by
  have q := ev_up (n := l.length) (loop := fun k i => impl_IsParty.l0 k l (l.length : Int) (i : Int) n l) (r := fun i => (decide (0 ≤ n) && decide (n ≤ 12)) && ((List.range l.length).drop i).all (okAt n l))
    (Ev.step (f := fun _ => some (decide (0 ≤ n) && decide (n ≤ 12))) (fun k => by
        simp only [impl_IsParty.l0]
        rw [if_neg (by omega), areCrowd_eq]; rfl) (by rw [all_end _ (Nat.le_refl _), Bool.and_true]; exact Ev.now _))
    (fun i hi ih => by
      rw [all_step (okAt n l) hi]
      have e0 : okAt n l i = (pairOk n l[i] && (decide (i = 0) || lessB (rdP l ((i : Int) - 1)) l[i])) := by
        unfold okAt rdP; rw [rdP_at hi]
      by_cases a1 : l[i].f0 < 0
      · have e : okAt n l i = false := by rw [e0]; simp [pairOk]; omega
        rw [e]
        refine Ev.step (f := fun _ => some false) (fun k => ?_) (by simpa using Ev.now false)
        simp only [impl_IsParty.l0]
        rw [if_pos (by omega), if_pos (by omega), if_pos (by omega), rdP_at hi, if_pos a1]
      by_cases a2 : l[i].f0 ≥ l[i].f1
      · have e : okAt n l i = false := by rw [e0]; simp [pairOk]; omega
        rw [e]
        refine Ev.step (f := fun _ => some false) (fun k => ?_) (by simpa using Ev.now false)
        simp only [impl_IsParty.l0]
        rw [if_pos (by omega), if_pos (by omega), if_pos (by omega), rdP_at hi, if_neg a1, if_pos a2]
      by_cases a3 : l[i].f1 ≥ n
      · have e : okAt n l i = false := by rw [e0]; simp [pairOk]; omega
        rw [e]
        refine Ev.step (f := fun _ => some false) (fun k => ?_) (by simpa using Ev.now false)
        simp only [impl_IsParty.l0]
        rw [if_pos (by omega), if_pos (by omega), if_pos (by omega), rdP_at hi, if_neg a1, if_neg a2, if_pos a3]
      have ep : pairOk n l[i] = true := by simp [pairOk]; omega
      by_cases a4 : i = 0
      · have e : okAt n l i = true := by rw [e0, ep, decide_eq_true a4]; simp
        rw [e]
        refine Ev.step (f := fun k => impl_IsParty.l0 k l (l.length : Int) ((i + 1 : Nat) : Int) n l) (fun k => ?_) (by simpa using ih)
        simp only [impl_IsParty.l0]
        rw [if_pos (by omega), if_pos (by omega), if_pos (by omega), rdP_at hi, if_neg a1, if_neg a2, if_neg a3, if_neg (by omega), succ_cast hi h]
      · have ew : wrap64 ((i : Int) - 1) = ((i - 1 : Nat) : Int) := by rw [wrap_id (by omega) (by omega)]; omega
        have ew2 : ((i : Int) - 1) = ((i - 1 : Nat) : Int) := by omega
        have e : okAt n l i = lessB l[i-1] l[i] := by
          rw [e0, ep, decide_eq_false a4, ew2]
          unfold rdP
          rw [rdP_at (by omega)]; simp
        rw [e]
        refine Ev.step (f := fun k => (impl_comparePairs.f k l[i-1].f0 l[i-1].f1 l[i].f0 l[i].f1).bind fun t => if t ≥ 0 then some false else impl_IsParty.l0 k l (l.length : Int) ((i + 1 : Nat) : Int) n l) (fun k => ?_) ?_
        · simp only [impl_IsParty.l0]
          rw [if_pos (by omega), if_pos (by omega), if_pos (by omega), rdP_at hi, if_neg a1, if_neg a2, if_neg a3, if_pos (by omega), if_pos (by omega), if_pos (by omega), ew, rdP_at (by omega : i - 1 < l.length), succ_cast hi h]
        · refine Ev.bind (comparePairs_ev _ _) ?_
          refine ev_if (fun b => ?_) (fun b => ?_)
          · rw [(compare_less _ _).mp b]; simpa using Ev.now false
          · have : lessB l[i-1] l[i] = true := by
              cases hb : lessB l[i-1] l[i] with
              | true => rfl
              | false => exact absurd ((compare_less _ _).mpr hb) b
            rw [this]; simpa using ih) 0 (Nat.zero_le _)
  simpa [impl_IsParty.f, party] using q

/-! What a party is, in words of numbers. -/
theorem party_of {n : Int} {l : List Pr} (h : party n l = true) : 0 ≤ n ∧ n ≤ 12 ∧ (∀ i, (hi : i < l.length) → 0 ≤ l[i].f0 ∧ l[i].f0 < l[i].f1 ∧ l[i].f1 < n) ∧ (∀ i, (hi : i + 1 < l.length) → lessB l[i] l[i+1] = true) := by
  unfold party at h
  simp only [Bool.and_eq_true, decide_eq_true_eq, List.all_eq_true, List.mem_range] at h
  obtain ⟨⟨h1, h2⟩, h3⟩ := h
  refine ⟨h1, h2, fun i hi => ?_, fun i hi => ?_⟩
  · have q := h3 i hi
    unfold okAt rdP at q
    rw [rdP_at hi] at q
    simp only [Bool.and_eq_true, pairOk, decide_eq_true_eq] at q
    exact q.1
  · have q := h3 (i + 1) hi
    unfold okAt rdP at q
    rw [show (((i + 1 : Nat) : Int) - 1) = ((i : Nat) : Int) by omega, rdP_at hi, rdP_at (by omega : i < l.length)] at q
    simpa using (Bool.and_eq_true _ _ ▸ q).2
end Go.Proofs.Ytagdkekkbdonfaa.Plain

/- A party as a relation between people; sets of people as numbers; how many hold. Plain lemmas. No condition. -/
namespace Go.Proofs.Ytagdkekkbdonfaa.Plain
open Go.RowKit Go.Proofs.YtagdkekkbdonfaaW.PrintWords Go.Proofs.YtagdkekkbdonfaaW.PrintLast
set_option linter.unusedVariables false
open Q

/-- Are two people friends. -/
def adj (l : List Pr) (a b : Nat) : Bool := l.any fun x => (decide (x.f0 = (a : Int)) && decide (x.f1 = (b : Int))) || (decide (x.f0 = (b : Int)) && decide (x.f1 = (a : Int)))

theorem adj_comm (l : List Pr) (a b : Nat) : adj l a b = adj l b a := by
  unfold adj
  congr 1
  funext x
  rw [Bool.or_comm]
theorem adj_nil (a b : Nat) : adj [] a b = false := rfl
theorem adj_snoc (l : List Pr) (x : Pr) (a b : Nat) : adj (l ++ [x]) a b = (adj l a b || ((decide (x.f0 = (a : Int)) && decide (x.f1 = (b : Int))) || (decide (x.f0 = (b : Int)) && decide (x.f1 = (a : Int))))) := by
  unfold adj
  rw [List.any_append]
  simp
theorem adj_true {l : List Pr} {a b : Nat} : adj l a b = true ↔ ∃ x ∈ l, (x.f0 = (a : Int) ∧ x.f1 = (b : Int)) ∨ (x.f0 = (b : Int) ∧ x.f1 = (a : Int)) := by
  unfold adj
  rw [List.any_eq_true]
  constructor
  · rintro ⟨x, hx, h⟩
    exact ⟨x, hx, by simpa using h⟩
  · rintro ⟨x, hx, h⟩
    exact ⟨x, hx, by simpa using h⟩

/-- All pairs are right for n people. -/
def Right (n : Nat) (l : List Pr) : Prop := ∀ x ∈ l, 0 ≤ x.f0 ∧ x.f0 < x.f1 ∧ x.f1 < (n : Int)
theorem Right.take {n : Nat} {l : List Pr} (h : Right n l) (i : Nat) : Right n (l.take i) := fun x hx => h x (List.mem_of_mem_take hx)

theorem lessB_trans {x y z : Pr} (h1 : lessB x y = true) (h2 : lessB y z = true) : lessB x z = true := by
  unfold lessB at *
  simp only [Bool.or_eq_true, Bool.and_eq_true, decide_eq_true_eq] at *
  omega
theorem sorted_lt {l : List Pr} (h : ∀ i, (hi : i + 1 < l.length) → lessB l[i] l[i+1] = true) : ∀ d i, (hi : i + 1 + d < l.length) → lessB l[i] l[i + 1 + d] = true := by
  intro d
  induction d with
  | zero => intro i hi; exact h i hi
  | succ d ih =>
    intro i hi
    have q := ih i (by omega)
    have q2 := h (i + 1 + d) (by omega)
    exact lessB_trans q q2

/-- What a right party tells: people from 0 to 12, right pairs, in order. -/
theorem party_right {n : Int} {l : List Pr} (h : party n l = true) : ∃ m : Nat, n = (m : Int) ∧ m ≤ 12 ∧ Right m l ∧ (∀ i j, (hj : j < l.length) → (hij : i < j) → lessB l[i] l[j] = true) := by
  obtain ⟨h1, h2, h3, h4⟩ := party_of h
  refine ⟨n.toNat, by omega, by omega, fun x hx => ?_, fun i j hj hij => ?_⟩
  · obtain ⟨i, hi, rfl⟩ := List.getElem_of_mem hx
    have := h3 i hi
    omega
  · have := sorted_lt h4 (j - i - 1) i (by omega)
    have e : i + 1 + (j - i - 1) = j := by omega
    simpa only [e] using this

/-- A pair is not among those before it. -/
theorem fresh_pair {n : Nat} {l : List Pr} (hr : Right n l) (hs : ∀ i j, (hj : j < l.length) → (hij : i < j) → lessB l[i] l[j] = true) {i : Nat} (hi : i < l.length) : adj (l.take i) l[i].f0.toNat l[i].f1.toNat = false := by
  cases h : adj (l.take i) l[i].f0.toNat l[i].f1.toNat with
  | false => rfl
  | true =>
    exfalso
    obtain ⟨x, hx, h⟩ := adj_true.mp h
    obtain ⟨j, hj, rfl⟩ := List.getElem_of_mem hx
    rw [List.length_take] at hj
    have hji : j < i := by omega
    have r1 := hr _ (List.getElem_mem hi)
    have r2 := hr l[j] (List.getElem_mem (by omega))
    have s := hs j i hi hji
    rw [List.getElem_take] at h
    unfold lessB at s
    simp only [Bool.or_eq_true, Bool.and_eq_true, decide_eq_true_eq] at s
    rcases h with ⟨h1, h2⟩ | ⟨h1, h2⟩ <;> omega

/-! Sets of people as numbers. -/
def maskOf (f : Nat → Bool) : Nat → Nat
  | 0 => 0
  | n + 1 => maskOf f n + (if f n = true then 2 ^ n else 0)

theorem maskOf_lt (f : Nat → Bool) : ∀ n, maskOf f n < 2 ^ n
  | 0 => by simp [maskOf]
  | n + 1 => by
    have := maskOf_lt f n
    unfold maskOf
    rw [Nat.pow_succ]
    split <;> omega

theorem maskOf_bit (f : Nat → Bool) : ∀ n b, (maskOf f n).testBit b = (decide (b < n) && f b)
  | 0, b => by simp [maskOf]
  | n + 1, b => by
    have ih := maskOf_bit f n b
    have hlt := maskOf_lt f n
    unfold maskOf
    by_cases h : f n = true
    · rw [if_pos h, Nat.add_comm]
      rcases Nat.lt_trichotomy b n with hb | rfl | hb
      · rw [Nat.testBit_two_pow_add_gt hb, ih]
        simp [hb, Nat.lt_succ_of_lt hb]
      · rw [Nat.testBit_two_pow_add_eq, Nat.testBit_lt_two_pow hlt]
        simp [h]
      · have h1 : 2 ^ (n + 1) ≤ 2 ^ b := Nat.pow_le_pow_right (by omega) (by omega)
        rw [Nat.pow_succ] at h1
        rw [Nat.testBit_lt_two_pow (by omega)]
        simp; omega
    · rw [if_neg h, Nat.add_zero, ih]
      by_cases e : b = n
      · subst e
        simp [Bool.eq_false_iff.mpr h]
      · have : decide (b < n + 1) = decide (b < n) := by
          apply decide_eq_decide.mpr; omega
        rw [this]

theorem maskOf_congr {f g : Nat → Bool} : ∀ {n}, (∀ b, b < n → f b = g b) → maskOf f n = maskOf g n
  | 0, _ => rfl
  | n + 1, h => by
    unfold maskOf
    rw [maskOf_congr (n := n) (fun b hb => h b (by omega)), h n (by omega)]

theorem mask_or (f g : Nat → Bool) (n : Nat) : maskOf f n ||| maskOf g n = maskOf (fun b => f b || g b) n := by
  apply Nat.eq_of_testBit_eq
  intro b
  rw [Nat.testBit_or, maskOf_bit, maskOf_bit, maskOf_bit]
  cases decide (b < n) <;> simp
theorem mask_and (f g : Nat → Bool) (n : Nat) : maskOf f n &&& maskOf g n = maskOf (fun b => f b && g b) n := by
  apply Nat.eq_of_testBit_eq
  intro b
  rw [Nat.testBit_and, maskOf_bit, maskOf_bit, maskOf_bit]
  cases decide (b < n) <;> simp
theorem mask_one {n b : Nat} (h : b < n) : (2 ^ b : Nat) = maskOf (fun c => decide (c = b)) n := by
  apply Nat.eq_of_testBit_eq
  intro c
  rw [Nat.testBit_two_pow, maskOf_bit]
  by_cases e : b = c
  · subst e; simp [h]
  · have : ¬ (c = b) := fun q => e q.symm
    simp [e, this]

/-! How many hold. -/
def cnt (f : Nat → Bool) (n : Nat) : Nat := (List.range n).countP f
theorem cnt_zero (f : Nat → Bool) : cnt f 0 = 0 := rfl
theorem cnt_succ (f : Nat → Bool) (n : Nat) : cnt f (n + 1) = cnt f n + (if f n = true then 1 else 0) := by
  unfold cnt
  rw [List.range_succ, List.countP_append]
  simp [List.countP_cons]
theorem cnt_le (f : Nat → Bool) (n : Nat) : cnt f n ≤ n := by
  unfold cnt
  have := List.countP_le_length (p := f) (l := List.range n)
  simpa using this
theorem cnt_congr {f g : Nat → Bool} {n : Nat} (h : ∀ b, b < n → f b = g b) : cnt f n = cnt g n := by
  unfold cnt
  apply List.countP_congr
  intro x hx
  rw [h x (by simpa using hx)]
theorem cnt_ext (f : Nat → Bool) (n : Nat) : ∀ d, cnt (fun b => decide (b < n) && f b) (n + d) = cnt f n
  | 0 => cnt_congr (fun b hb => by simp [show b < n by omega])
  | d + 1 => by
    rw [show n + (d + 1) = (n + d) + 1 by omega, cnt_succ, cnt_ext f n d]
    have : decide (n + d < n) = false := by simp
    rw [this, Bool.false_and]; simp
theorem cnt_one {f : Nat → Bool} {g : Nat → Bool} {a : Nat} : ∀ {n}, a < n → f a = false → (∀ b, b < n → g b = (f b || decide (b = a))) → cnt g n = cnt f n + 1
  | 0, h, _, _ => by omega
  | n + 1, h, hf, hg => by
    rw [cnt_succ, cnt_succ]
    by_cases e : a = n
    · subst e
      have h1 : cnt g a = cnt f a := cnt_congr (fun b hb => by rw [hg b (by omega)]; simp [show ¬ b = a by omega])
      have h2 := hg a (by omega)
      rw [h1, h2, hf]
      simp
    · have h1 := cnt_one (f := f) (g := g) (n := n) (by omega) hf (fun b hb => hg b (by omega))
      have h2 := hg n (by omega)
      rw [h1, h2]
      have : decide (n = a) = false := by simp; omega
      rw [this, Bool.or_false]
      omega
end Go.Proofs.Ytagdkekkbdonfaa.Plain

/- The program's table of a party: for each person its friends, as the bits of a number. No condition but lengths that fit. -/
namespace Go.Proofs.Ytagdkekkbdonfaa.Plain
open Go.RowKit Go.Proofs.YtagdkekkbdonfaaW.PrintWords Go.Proofs.YtagdkekkbdonfaaW.PrintLast
set_option linter.unusedVariables false
open Q

theorem wraps_u16 (n : Int) (h₀ : 0 ≤ n) (h₁ : n < 2 ^ 16) : IntKind.u16.wrap n = n := by
  have : IntKind.u16.wrap n = n % 65536 := by simp [IntKind.wrap, IntKind.bits, IntKind.signed]
  rw [this]; omega
theorem or16 {a b : Nat} (ha : a < 2 ^ 16) (hb : b < 2 ^ 16) : Go.bits .or .u16 (a : Int) (b : Int) = ((a ||| b : Nat) : Int) := (bits_nat .u16 16 (by decide) wraps_u16 a b ha hb).2
theorem and16 {a b : Nat} (ha : a < 2 ^ 16) (hb : b < 2 ^ 16) : Go.bits .and .u16 (a : Int) (b : Int) = ((a &&& b : Nat) : Int) := (bits_nat .u16 16 (by decide) wraps_u16 a b ha hb).1
theorem shl16 {b : Nat} (hb : b < 16) : shl .u16 1 (b : Int) = ((2 ^ b : Nat) : Int) := by
  unfold shl
  have h1 : min ((b : Int)).toNat IntKind.u16.bits = b := by
    rw [Int.toNat_natCast]
    exact Nat.min_eq_left (by show b ≤ 16; omega)
  rw [h1, Int.one_mul, wraps_u16]
  · simp
  · exact Int.pow_nonneg (by decide)
  · have : (2 : Nat) ^ b < 2 ^ 16 := Nat.pow_lt_pow_right (by omega) hb
    exact_mod_cast this

/-- The table of a relation of n people. -/
def tabF (n : Nat) (f : Nat → Nat → Bool) : List Int := (List.range n).map fun a => ((maskOf (f a) n : Nat) : Int)
theorem tabF_length (n : Nat) (f : Nat → Nat → Bool) : (tabF n f).length = n := by simp [tabF]
theorem tabF_get {n : Nat} {f : Nat → Nat → Bool} {a : Nat} (h : a < n) : rd (tabF n f) (a : Int) = ((maskOf (f a) n : Nat) : Int) := by
  rw [rd_at (by rw [tabF_length]; exact h)]
  simp [tabF]
theorem tabF_congr {n : Nat} {f g : Nat → Nat → Bool} (h : ∀ a b, a < n → b < n → f a b = g a b) : tabF n f = tabF n g := by
  unfold tabF
  apply List.map_congr_left
  intro a ha
  rw [maskOf_congr (fun b hb => h a b (by simpa using ha) hb)]
theorem mask16 {f : Nat → Bool} {n : Nat} (h : n ≤ 16) : maskOf f n < 2 ^ 16 := Nat.lt_of_lt_of_le (maskOf_lt f n) (Nat.pow_le_pow_right (by omega) h)

/-- The relation with two people made friends. -/
def withP (f : Nat → Nat → Bool) (a b : Nat) : Nat → Nat → Bool := fun c d => f c d || ((decide (c = a) && decide (d = b)) || (decide (c = b) && decide (d = a)))

/-- One pair put into the table, as both the loop and 'put' do it. -/
theorem tab_put {n : Nat} (hn : n ≤ 16) (f : Nat → Nat → Bool) {a b : Nat} (ha : a < n) (hb : b < n) (hab : a ≠ b) :
    ((tabF n f).set a (Go.bits .or .u16 (rd (tabF n f) (a : Int)) (shl .u16 1 (b : Int)))).set b
      (Go.bits .or .u16 (rd ((tabF n f).set a (Go.bits .or .u16 (rd (tabF n f) (a : Int)) (shl .u16 1 (b : Int)))) (b : Int)) (shl .u16 1 (a : Int))) = tabF n (withP f a b) := by
  have e1 : Go.bits .or .u16 (rd (tabF n f) (a : Int)) (shl .u16 1 (b : Int)) = ((maskOf (withP f a b a) n : Nat) : Int) := by
    rw [tabF_get ha, shl16 (by omega), or16 (mask16 hn) (Nat.pow_lt_pow_right (by omega) (by omega)), mask_one hb, mask_or]
    congr 1
    apply maskOf_congr
    intro c _
    unfold withP
    simp [hab]
  have e2 : rd ((tabF n f).set a (Go.bits .or .u16 (rd (tabF n f) (a : Int)) (shl .u16 1 (b : Int)))) (b : Int) = ((maskOf (f b) n : Nat) : Int) := by
    rw [rd_at (by rw [List.length_set, tabF_length]; exact hb), List.getElem_set_ne hab]
    simp [tabF]
  have e3 : Go.bits .or .u16 ((maskOf (f b) n : Nat) : Int) (shl .u16 1 (a : Int)) = ((maskOf (withP f a b b) n : Nat) : Int) := by
    rw [shl16 (by omega), or16 (mask16 hn) (Nat.pow_lt_pow_right (by omega) (by omega)), mask_one ha, mask_or]
    congr 1
    apply maskOf_congr
    intro c _
    unfold withP
    simp [show ¬ (b = a) from fun q => hab q.symm]
  rw [e2, e3, e1]
  apply List.ext_getElem
  · simp [tabF_length]
  · intro i h1 h2
    rw [tabF_length] at h2
    rw [List.getElem_set, List.getElem_set]
    by_cases i1 : b = i
    · subst i1
      rw [if_pos rfl]
      simp [tabF]
    · rw [if_neg i1]
      by_cases i2 : a = i
      · subst i2
        rw [if_pos rfl]
        simp [tabF]
      · rw [if_neg i2]
        simp only [tabF, List.getElem_map, List.getElem_range]
        congr 1
        apply maskOf_congr
        intro c _
        unfold withP
        simp [show ¬ (i = a) from fun q => i2 q.symm, show ¬ (i = b) from fun q => i1 q.symm]

theorem table_ev {n : Nat} {l : List Pr} (hn : n ≤ 12) (hr : Right n l) (h : l.length ≤ 9223372036854775807) : Ev (fun k => impl_Party_table.f k (n : Int) l) (tabF n (adj l)) := by
  refine Ev.congr (f := fun k => impl_Party_table.l0 k (List.replicate n 0) l (l.length : Int) 0) (fun k => ?_) ?_
  · unfold impl_Party_table.f
    rw [if_pos (by omega), if_pos (by omega), Int.toNat_natCast]
  · have q := ev_up (n := l.length) (loop := fun k i => impl_Party_table.l0 k (tabF n (adj (l.take i))) l (l.length : Int) (i : Int)) (r := fun _ => tabF n (adj l))
      (Ev.step (f := fun _ => some (tabF n (adj l))) (fun k => by simp [impl_Party_table.l0]) (Ev.now _))
      (fun i hi ih => by
        have r := hr _ (List.getElem_mem hi)
        have ea : ((l[i].f0.toNat : Nat) : Int) = l[i].f0 := by omega
        have eb : ((l[i].f1.toNat : Nat) : Int) = l[i].f1 := by omega
        have hput := tab_put (n := n) (by omega) (adj (l.take i)) (a := l[i].f0.toNat) (b := l[i].f1.toNat) (by omega) (by omega) (by omega)
        rw [ea, eb] at hput
        have hnext : tabF n (withP (adj (l.take i)) l[i].f0.toNat l[i].f1.toNat) = tabF n (adj (l.take (i + 1))) := by
          apply tabF_congr
          intro c d _ _
          rw [List.take_succ_eq_append_getElem hi, adj_snoc]
          unfold withP
          congr 1
          have k1 : decide (c = l[i].f0.toNat) = decide (l[i].f0 = (c : Int)) := by apply decide_eq_decide.mpr; omega
          have k2 : decide (d = l[i].f1.toNat) = decide (l[i].f1 = (d : Int)) := by apply decide_eq_decide.mpr; omega
          have k3 : decide (c = l[i].f1.toNat) = decide (l[i].f1 = (c : Int)) := by apply decide_eq_decide.mpr; omega
          have k4 : decide (d = l[i].f0.toNat) = decide (l[i].f0 = (d : Int)) := by apply decide_eq_decide.mpr; omega
          rw [k1, k2, k3, k4, Bool.and_comm (decide (l[i].f1 = (c : Int)))]
        rw [hnext] at hput
        refine Ev.step (f := fun k => impl_Party_table.l0 k (tabF n (adj (l.take (i + 1)))) l (l.length : Int) ((i + 1 : Nat) : Int)) (fun k => ?_) ih
        simp only [impl_Party_table.l0]
        rw [if_pos (by omega), if_pos (by omega), if_pos (by omega), rdP_at hi, if_pos (by omega), if_pos (by rw [tabF_length]; omega), if_pos (by omega), Option.bind_some, if_pos (by rw [tabF_length]; omega), hput, succ_cast hi h]) 0 (Nat.zero_le _)
    have e : tabF n (adj (l.take 0)) = List.replicate n 0 := by
      have hz : ∀ m, maskOf (fun _ => false) m = 0 := by
        intro m
        induction m with
        | zero => rfl
        | succ m ih => unfold maskOf; rw [ih]; simp
      have : tabF n (fun _ _ => false) = List.replicate n 0 := by
        unfold tabF
        rw [List.eq_replicate_iff]
        refine ⟨by simp, fun b hb => ?_⟩
        obtain ⟨a, _, rfl⟩ := List.mem_map.1 hb
        rw [hz]; rfl
      rw [← this]
      apply tabF_congr
      intro a b _ _
      rw [List.take_zero, adj_nil]
    rw [e] at q
    exact q
end Go.Proofs.Ytagdkekkbdonfaa.Plain

/- The reference's table of a party: for each person, of each person, whether they are friends. No condition but lengths that fit. -/
namespace Go.Proofs.Ytagdkekkbdonfaa.Plain
open Go.RowKit Go.Proofs.YtagdkekkbdonfaaW.PrintWords Go.Proofs.YtagdkekkbdonfaaW.PrintLast
set_option linter.unusedVariables false
open Q

theorem rdB_at {l : List (List Bool)} {i : Nat} (h : i < l.length) : rd_L4 l (i : Int) = l[i] := by
  simp [rd_L4, List.getD, h]
theorem rdOfB_at {l : List Bool} {i : Nat} (h : i < l.length) : rdOf false l (i : Int) = l[i] := by
  simp [rdOf, List.getD, h]

/-- The table of a relation of n people, as bools. -/
def rowB (n : Nat) (f : Nat → Bool) : List Bool := (List.range n).map f
def tabB (n : Nat) (f : Nat → Nat → Bool) : List (List Bool) := (List.range n).map fun a => rowB n (f a)
theorem rowB_length (n : Nat) (f : Nat → Bool) : (rowB n f).length = n := by simp [rowB]
theorem rowB_get {n : Nat} {f : Nat → Bool} {a : Nat} (h : a < (rowB n f).length) : (rowB n f)[a] = f a := by simp [rowB]
theorem tabB_length (n : Nat) (f : Nat → Nat → Bool) : (tabB n f).length = n := by simp [tabB]
theorem tabB_getElem {n : Nat} {f : Nat → Nat → Bool} {a : Nat} (h : a < (tabB n f).length) : (tabB n f)[a] = rowB n (f a) := by simp [tabB]
theorem tabB_get {n : Nat} {f : Nat → Nat → Bool} {a : Nat} (h : a < n) : rd_L4 (tabB n f) (a : Int) = rowB n (f a) := by
  rw [rdB_at (by rw [tabB_length]; exact h), tabB_getElem]
theorem rowB_congr {n : Nat} {f g : Nat → Bool} (h : ∀ b, b < n → f b = g b) : rowB n f = rowB n g := by
  unfold rowB
  apply List.map_congr_left
  intro b hb
  exact h b (by simpa using hb)
theorem tabB_congr {n : Nat} {f g : Nat → Nat → Bool} (h : ∀ a b, a < n → b < n → f a b = g a b) : tabB n f = tabB n g := by
  unfold tabB
  apply List.map_congr_left
  intro a ha
  exact rowB_congr (fun b hb => h a b (by simpa using ha) hb)
theorem rowB_set {n : Nat} {f : Nat → Bool} {b : Nat} (v : Bool) : (rowB n f).set b v = rowB n (fun c => if c = b then v else f c) := by
  apply List.ext_getElem
  · simp [rowB_length]
  · intro i h1 h2
    rw [List.getElem_set, rowB_get]
    by_cases e : b = i
    · subst e; rw [if_pos rfl, rowB_get, if_pos rfl]
    · rw [if_neg e, rowB_get, if_neg (fun q => e q.symm)]

/-- Two cells set, the one of both people's. -/
def setP (f : Nat → Nat → Bool) (a b : Nat) (v : Bool) : Nat → Nat → Bool := fun c d => if (c = a ∧ d = b) ∨ (c = b ∧ d = a) then v else f c d

theorem tabB_put {n : Nat} (f : Nat → Nat → Bool) {a b : Nat} (ha : a < n) (hb : b < n) (hab : a ≠ b) (v : Bool) :
    ((tabB n f).set a ((rd_L4 (tabB n f) (a : Int)).set b v)).set b ((rd_L4 ((tabB n f).set a ((rd_L4 (tabB n f) (a : Int)).set b v)) (b : Int)).set a v) = tabB n (setP f a b v) := by
  have e2 : rd_L4 ((tabB n f).set a ((rd_L4 (tabB n f) (a : Int)).set b v)) (b : Int) = rowB n (f b) := by
    rw [rdB_at (by rw [List.length_set, tabB_length]; exact hb), List.getElem_set_ne hab, tabB_getElem]
  rw [e2, tabB_get ha, rowB_set, rowB_set]
  apply List.ext_getElem
  · simp [tabB_length]
  · intro i h1 h2
    rw [tabB_length] at h2
    rw [List.getElem_set, List.getElem_set]
    by_cases i1 : b = i
    · subst i1
      rw [if_pos rfl, tabB_getElem]
      apply rowB_congr
      intro c _
      unfold setP
      simp [show ¬ (b = a) from fun q => hab q.symm]
    · rw [if_neg i1]
      by_cases i2 : a = i
      · subst i2
        rw [if_pos rfl, tabB_getElem]
        apply rowB_congr
        intro c _
        unfold setP
        simp [hab]
      · rw [if_neg i2, tabB_getElem, tabB_getElem]
        apply rowB_congr
        intro c _
        unfold setP
        simp [show ¬ (i = a) from fun q => i2 q.symm, show ¬ (i = b) from fun q => i1 q.symm]

theorem setP_true (f : Nat → Nat → Bool) (a b c d : Nat) : setP f a b true c d = withP f a b c d := by
  unfold setP withP
  by_cases h : (c = a ∧ d = b) ∨ (c = b ∧ d = a)
  · rw [if_pos h]
    rcases h with ⟨rfl, rfl⟩ | ⟨rfl, rfl⟩ <;> simp
  · rw [if_neg h]
    have : ((decide (c = a) && decide (d = b)) || (decide (c = b) && decide (d = a))) = false := by
      rw [Bool.eq_false_iff]
      intro q
      exact h (by simpa using q)
    rw [this, Bool.or_false]

theorem adj_next {n : Nat} {l : List Pr} (hr : Right n l) {i : Nat} (hi : i < l.length) (c d : Nat) : withP (adj (l.take i)) l[i].f0.toNat l[i].f1.toNat c d = adj (l.take (i + 1)) c d := by
  have r := hr _ (List.getElem_mem hi)
  rw [List.take_succ_eq_append_getElem hi, adj_snoc]
  unfold withP
  congr 1
  have k1 : decide (c = l[i].f0.toNat) = decide (l[i].f0 = (c : Int)) := by apply decide_eq_decide.mpr; omega
  have k2 : decide (d = l[i].f1.toNat) = decide (l[i].f1 = (d : Int)) := by apply decide_eq_decide.mpr; omega
  have k3 : decide (c = l[i].f1.toNat) = decide (l[i].f1 = (c : Int)) := by apply decide_eq_decide.mpr; omega
  have k4 : decide (d = l[i].f0.toNat) = decide (l[i].f0 = (d : Int)) := by apply decide_eq_decide.mpr; omega
  rw [k1, k2, k3, k4, Bool.and_comm (decide (l[i].f1 = (c : Int)))]

theorem paTable_ev {n : Nat} {l : List Pr} (hn : n ≤ 12) (hr : Right n l) (h : l.length ≤ 9223372036854775807) : Ev (fun k => spec_paTable.f k (n : Int) l) (tabB n (adj l)) := by
  have q1 := ev_up (n := l.length) (loop := fun k i => spec_paTable.l1 k (tabB n (adj (l.take i))) l (l.length : Int) (i : Int)) (r := fun _ => tabB n (adj l))
    (Ev.step (f := fun _ => some (tabB n (adj l))) (fun k => by simp [spec_paTable.l1]) (Ev.now _))
    (fun i hi ih => by
      have r := hr _ (List.getElem_mem hi)
      have ea : ((l[i].f0.toNat : Nat) : Int) = l[i].f0 := by omega
      have eb : ((l[i].f1.toNat : Nat) : Int) = l[i].f1 := by omega
      have hput := tabB_put (n := n) (adj (l.take i)) (a := l[i].f0.toNat) (b := l[i].f1.toNat) (by omega) (by omega) (by omega) true
      have hnext : tabB n (setP (adj (l.take i)) l[i].f0.toNat l[i].f1.toNat true) = tabB n (adj (l.take (i + 1))) :=
        tabB_congr (fun c d _ _ => by rw [setP_true, adj_next hr hi])
      rw [hnext] at hput
      have la : (rd_L4 (tabB n (adj (l.take i))) l[i].f0).length = n := by
        rw [← ea, tabB_get (by omega), rowB_length]
      have lb : (rd_L4 ((tabB n (adj (l.take i))).set l[i].f0.toNat ((rd_L4 (tabB n (adj (l.take i))) l[i].f0).set l[i].f1.toNat true)) l[i].f1).length = n := by
        rw [← eb, rdB_at (by rw [List.length_set, tabB_length]; omega), List.getElem_set_ne (by omega), tabB_getElem, rowB_length]
      rw [ea, eb] at hput
      refine Ev.step (f := fun k => spec_paTable.l1 k (tabB n (adj (l.take (i + 1)))) l (l.length : Int) ((i + 1 : Nat) : Int)) (fun k => ?_) ih
      simp only [spec_paTable.l1]
      rw [if_pos (by omega), if_pos (by omega), if_pos (by omega), rdP_at hi, if_pos (by omega), if_pos (by rw [tabB_length]; omega), if_pos (by omega), if_pos (by rw [la]; omega), Option.bind_some, if_pos (by rw [tabB_length]; omega), if_pos (by rw [lb]; omega), hput, succ_cast hi h]) 0 (Nat.zero_le _)
  have e0 : tabB n (adj (l.take 0)) = List.replicate n (List.replicate n false) := by
    unfold tabB
    rw [List.eq_replicate_iff]
    refine ⟨by simp, fun b hb => ?_⟩
    obtain ⟨a, _, rfl⟩ := List.mem_map.1 hb
    unfold rowB
    rw [List.eq_replicate_iff]
    refine ⟨by simp, fun c hc => ?_⟩
    obtain ⟨d, _, rfl⟩ := List.mem_map.1 hc
    rw [List.take_zero, adj_nil]
  rw [e0] at q1
  have q0 := ev_up (n := n) (loop := fun k i => spec_paTable.l0 k (List.replicate i (List.replicate n false)) (i : Int) (n : Int) l) (r := fun _ => tabB n (adj l))
    (Ev.step (f := fun k => spec_paTable.l1 k (List.replicate n (List.replicate n false)) l (l.length : Int) 0) (fun k => by
      simp only [spec_paTable.l0]
      rw [if_neg (by omega)]) q1)
    (fun i hi ih => by
      refine Ev.step (f := fun k => spec_paTable.l0 k (List.replicate (i + 1) (List.replicate n false)) ((i + 1 : Nat) : Int) (n : Int) l) (fun k => ?_) ih
      simp only [spec_paTable.l0]
      rw [if_pos (by omega), if_pos (by omega), if_pos (by omega), if_pos (by simp; omega), Int.toNat_natCast, succ_cast hi (by omega), ← List.replicate_succ']) 0 (Nat.zero_le _)
  exact q0
end Go.Proofs.Ytagdkekkbdonfaa.Plain

/- math/bits.OnesCount16 over a set of people, and the numbers of friends. No condition. -/
namespace Go.Proofs.Ytagdkekkbdonfaa.Plain
open Go.RowKit Go.Proofs.YtagdkekkbdonfaaW.PrintWords Go.Proofs.YtagdkekkbdonfaaW.PrintLast
set_option linter.unusedVariables false
open Q

/-- How many bits of a number are set. -/
def pop (k m : Nat) : Nat := cnt (fun b => m.testBit b) k

set_option maxRecDepth 100000 in
theorem pop_table : ∀ i : Fin 256, bt (⟨#[0, 1, 1, 2, 1, 2, 2, 3, 1, 2, 2, 3, 2, 3, 3, 4, 1, 2, 2, 3, 2, 3, 3, 4, 2, 3, 3, 4, 3, 4, 4, 5, 1, 2, 2, 3, 2, 3, 3, 4, 2, 3, 3, 4, 3, 4, 4, 5, 2, 3, 3, 4, 3, 4, 4, 5, 3, 4, 4, 5, 4, 5, 5, 6, 1, 2, 2, 3, 2, 3, 3, 4, 2, 3, 3, 4, 3, 4, 4, 5, 2, 3, 3, 4, 3, 4, 4, 5, 3, 4, 4, 5, 4, 5, 5, 6, 2, 3, 3, 4, 3, 4, 4, 5, 3, 4, 4, 5, 4, 5, 5, 6, 3, 4, 4, 5, 4, 5, 5, 6, 4, 5, 5, 6, 5, 6, 6, 7, 1, 2, 2, 3, 2, 3, 3, 4, 2, 3, 3, 4, 3, 4, 4, 5, 2, 3, 3, 4, 3, 4, 4, 5, 3, 4, 4, 5, 4, 5, 5, 6, 2, 3, 3, 4, 3, 4, 4, 5, 3, 4, 4, 5, 4, 5, 5, 6, 3, 4, 4, 5, 4, 5, 5, 6, 4, 5, 5, 6, 5, 6, 6, 7, 2, 3, 3, 4, 3, 4, 4, 5, 3, 4, 4, 5, 4, 5, 5, 6, 3, 4, 4, 5, 4, 5, 5, 6, 4, 5, 5, 6, 5, 6, 6, 7, 3, 4, 4, 5, 4, 5, 5, 6, 4, 5, 5, 6, 5, 6, 6, 7, 4, 5, 5, 6, 5, 6, 6, 7, 5, 6, 6, 7, 6, 7, 7, 8]⟩ : ByteArray) (i.val : Int) = (pop 8 i.val : Int) := by decide +kernel

theorem pop_le (k m : Nat) : pop k m ≤ k := cnt_le _ _
theorem pop_split (m : Nat) : pop 16 m = pop 8 (m / 256) + pop 8 (m % 256) := by
  have h : ∀ k, k ≤ 8 → pop (8 + k) m = pop k (m / 256) + pop 8 m := by
    intro k
    induction k with
    | zero => intro _; simp [pop, cnt_zero]
    | succ k ih =>
      intro hk
      have q := ih (by omega)
      unfold pop at q ⊢
      rw [show 8 + (k + 1) = (8 + k) + 1 by omega, cnt_succ, cnt_succ, q]
      have e : (m / 256).testBit k = m.testBit (8 + k) := by
        rw [show 256 = 2 ^ 8 by rfl, Nat.testBit_div_two_pow, Nat.add_comm]
      rw [e]; omega
  have e2 : pop 8 (m % 256) = pop 8 m := by
    unfold pop
    apply cnt_congr
    intro b hb
    rw [show 256 = 2 ^ 8 by rfl, Nat.testBit_mod_two_pow]
    simp [hb]
  have := h 8 (by omega)
  rw [e2]
  exact this

set_option maxRecDepth 100000 in
theorem onesCount_eq {m : Nat} (h : m < 2 ^ 16) : bits_OnesCount16.f (m : Int) = some ((pop 16 m : Nat) : Int) := by
  unfold bits_OnesCount16.f
  have e1 : (m : Int) / 256 = ((m / 256 : Nat) : Int) := by omega
  have e2 : Go.bits .and .u16 (m : Int) 255 = ((m % 256 : Nat) : Int) := by
    rw [show (255 : Int) = ((255 : Nat) : Int) by rfl, and16 h (by omega), show (255 : Nat) = 2 ^ 8 - 1 by rfl, Nat.and_two_pow_sub_one_eq_mod]
  rw [e1, e2]
  have t1 := pop_table ⟨m / 256, by omega⟩
  have t2 := pop_table ⟨m % 256, by omega⟩
  simp only [] at t1 t2
  rw [if_pos (by omega), if_pos (by omega), if_pos (by omega), if_pos (by omega), t1, t2, pop_split]
  have h1 := pop_le 8 (m / 256)
  have h2 := pop_le 8 (m % 256)
  congr 1
  omega

theorem pop_mask {f : Nat → Bool} {n : Nat} (h : n ≤ 16) : pop 16 (maskOf f n) = cnt f n := by
  unfold pop
  rw [show (16 : Nat) = n + (16 - n) by omega, ← cnt_ext f n (16 - n)]
  apply cnt_congr
  intro b _
  rw [maskOf_bit]

theorem count_mask {f : Nat → Bool} {n : Nat} (h : n ≤ 16) : bits_OnesCount16.f ((maskOf f n : Nat) : Int) = some ((cnt f n : Nat) : Int) := by
  rw [onesCount_eq (mask16 h), pop_mask h]
end Go.Proofs.Ytagdkekkbdonfaa.Plain

/- The numbers of friends, on both sides. No condition but lengths that fit. -/
namespace Go.Proofs.Ytagdkekkbdonfaa.Plain
open Go.RowKit Go.Proofs.YtagdkekkbdonfaaW.PrintWords Go.Proofs.YtagdkekkbdonfaaW.PrintLast
set_option linter.unusedVariables false
open Q

/-- How many friends each of n people has. -/
def numsF (n : Nat) (f : Nat → Nat → Bool) : List Int := (List.range n).map fun a => ((cnt (f a) n : Nat) : Int)
theorem numsF_length (n : Nat) (f : Nat → Nat → Bool) : (numsF n f).length = n := by simp [numsF]
theorem numsF_get {n : Nat} {f : Nat → Nat → Bool} {a : Nat} (h : a < n) : rd (numsF n f) (a : Int) = ((cnt (f a) n : Nat) : Int) := by
  rw [rd_at (by rw [numsF_length]; exact h)]
  simp [numsF]
theorem numsF_getElem {n : Nat} {f : Nat → Nat → Bool} {a : Nat} (h : a < (numsF n f).length) : (numsF n f)[a] = ((cnt (f a) n : Nat) : Int) := by
  simp [numsF]

theorem nums_put {n : Nat} (f : Nat → Nat → Bool) {a b : Nat} (ha : a < n) (hb : b < n) (hab : a ≠ b) (hn : n ≤ 12) (h1 : f a b = false) (h2 : f b a = false) :
    ((numsF n f).set a (wrap64 (rd (numsF n f) (a : Int) + 1))).set b (wrap64 (rd ((numsF n f).set a (wrap64 (rd (numsF n f) (a : Int) + 1))) (b : Int) + 1)) = numsF n (withP f a b) := by
  have c1 := cnt_le (f a) n
  have c2 := cnt_le (f b) n
  have e1 : wrap64 (rd (numsF n f) (a : Int) + 1) = ((cnt (withP f a b a) n : Nat) : Int) := by
    rw [numsF_get ha, wrap_id (by omega) (by omega), cnt_one (f := f a) (g := withP f a b a) hb h1 (fun c _ => by unfold withP; simp [hab])]
    omega
  have e2 : wrap64 (rd ((numsF n f).set a (wrap64 (rd (numsF n f) (a : Int) + 1))) (b : Int) + 1) = ((cnt (withP f a b b) n : Nat) : Int) := by
    rw [rd_at (by rw [List.length_set, numsF_length]; exact hb), List.getElem_set_ne hab, numsF_getElem, wrap_id (by omega) (by omega), cnt_one (f := f b) (g := withP f a b b) ha h2 (fun c _ => by unfold withP; simp [show ¬ (b = a) from fun q => hab q.symm])]
    omega
  rw [e2, e1]
  apply List.ext_getElem
  · simp [numsF_length]
  · intro i g1 g2
    rw [numsF_length] at g2
    rw [List.getElem_set, List.getElem_set]
    by_cases i1 : b = i
    · subst i1
      rw [if_pos rfl, numsF_getElem]
    · rw [if_neg i1]
      by_cases i2 : a = i
      · subst i2
        rw [if_pos rfl, numsF_getElem]
      · rw [if_neg i2, numsF_getElem, numsF_getElem]
        congr 1
        apply cnt_congr
        intro c _
        unfold withP
        simp [show ¬ (i = a) from fun q => i2 q.symm, show ¬ (i = b) from fun q => i1 q.symm]

theorem numsF_congr {n : Nat} {f g : Nat → Nat → Bool} (h : ∀ a b, a < n → b < n → f a b = g a b) : numsF n f = numsF n g := by
  unfold numsF
  apply List.map_congr_left
  intro a ha
  rw [cnt_congr (fun b hb => h a b (by simpa using ha) hb)]

theorem paNumbers_ev {n : Nat} {l : List Pr} (hn : n ≤ 12) (hr : Right n l) (hs : ∀ i j, (hj : j < l.length) → (hij : i < j) → lessB l[i] l[j] = true) (h : l.length ≤ 9223372036854775807) :
    Ev (fun k => spec_paNumbers.f k (n : Int) l) (numsF n (adj l)) := by
  refine Ev.congr (f := fun k => spec_paNumbers.l0 k (List.replicate n 0) l (l.length : Int) 0) (fun k => ?_) ?_
  · unfold spec_paNumbers.f
    rw [if_pos (by omega), if_pos (by omega), Int.toNat_natCast]
  · have q := ev_up (n := l.length) (loop := fun k i => spec_paNumbers.l0 k (numsF n (adj (l.take i))) l (l.length : Int) (i : Int)) (r := fun _ => numsF n (adj l))
      (Ev.step (f := fun _ => some (numsF n (adj l))) (fun k => by simp [spec_paNumbers.l0]) (Ev.now _))
      (fun i hi ih => by
        have r := hr _ (List.getElem_mem hi)
        have ea : ((l[i].f0.toNat : Nat) : Int) = l[i].f0 := by omega
        have eb : ((l[i].f1.toNat : Nat) : Int) = l[i].f1 := by omega
        have hf := fresh_pair hr hs hi
        have hput := nums_put (n := n) (adj (l.take i)) (a := l[i].f0.toNat) (b := l[i].f1.toNat) (by omega) (by omega) (by omega) hn hf (by rw [adj_comm]; exact hf)
        rw [ea, eb] at hput
        have hnext : numsF n (withP (adj (l.take i)) l[i].f0.toNat l[i].f1.toNat) = numsF n (adj (l.take (i + 1))) := by
          apply numsF_congr
          intro c d _ _
          rw [List.take_succ_eq_append_getElem hi, adj_snoc]
          unfold withP
          congr 1
          have k1 : decide (c = l[i].f0.toNat) = decide (l[i].f0 = (c : Int)) := by apply decide_eq_decide.mpr; omega
          have k2 : decide (d = l[i].f1.toNat) = decide (l[i].f1 = (d : Int)) := by apply decide_eq_decide.mpr; omega
          have k3 : decide (c = l[i].f1.toNat) = decide (l[i].f1 = (c : Int)) := by apply decide_eq_decide.mpr; omega
          have k4 : decide (d = l[i].f0.toNat) = decide (l[i].f0 = (d : Int)) := by apply decide_eq_decide.mpr; omega
          rw [k1, k2, k3, k4, Bool.and_comm (decide (l[i].f1 = (c : Int)))]
        rw [hnext] at hput
        refine Ev.step (f := fun k => spec_paNumbers.l0 k (numsF n (adj (l.take (i + 1)))) l (l.length : Int) ((i + 1 : Nat) : Int)) (fun k => ?_) ih
        simp only [spec_paNumbers.l0]
        rw [if_pos (by omega), if_pos (by omega), if_pos (by omega), rdP_at hi, if_pos (by omega), if_pos (by rw [numsF_length]; omega), Option.bind_some, if_pos (by omega), if_pos (by rw [numsF_length]; omega), hput, succ_cast hi h]) 0 (Nat.zero_le _)
    have e : numsF n (adj (l.take 0)) = List.replicate n 0 := by
      unfold numsF
      rw [List.eq_replicate_iff]
      refine ⟨by simp, fun b hb => ?_⟩
      obtain ⟨a, _, rfl⟩ := List.mem_map.1 hb
      have hz : ∀ m, cnt (adj (l.take 0) a) m = 0 := by
        intro m
        induction m with
        | zero => rfl
        | succ m ih => rw [cnt_succ, ih, List.take_zero, adj_nil]; rfl
      rw [hz]; rfl
    rw [e] at q
    exact q

theorem number_eq {n : Nat} (hn : n ≤ 12) (f : Nat → Nat → Bool) {a : Nat} (ha : a < n) : impl_table_number.f (tabF n f) (a : Int) = some ((cnt (f a) n : Nat) : Int) := by
  unfold impl_table_number.f
  rw [if_pos (by omega), if_pos (by rw [tabF_length]; omega), tabF_get ha, count_mask (by omega)]; rfl

theorem numbers_ev {n : Nat} (hn : n ≤ 12) (f : Nat → Nat → Bool) : Ev (fun k => impl_table_numbers.f k (tabF n f)) (numsF n f) := by
  have q := ev_up (n := n) (loop := fun k i => impl_table_numbers.l0 k (tabF n f) ((numsF n f).take i) (n : Int) (i : Int)) (r := fun _ => numsF n f)
    (Ev.step (f := fun _ => some (numsF n f)) (fun k => by
      simp only [impl_table_numbers.l0]
      rw [if_neg (by omega), List.take_of_length_le (by rw [numsF_length]; omega)]) (Ev.now _))
    (fun i hi ih => by
      have hin : i < (numsF n f).length := by rw [numsF_length]; exact hi
      refine Ev.step (f := fun k => impl_table_numbers.l0 k (tabF n f) ((numsF n f).take (i + 1)) (n : Int) ((i + 1 : Nat) : Int)) (fun k => ?_) ih
      simp only [impl_table_numbers.l0]
      rw [if_pos (by omega), number_eq hn f hi, Option.bind_some, if_pos (by simp; omega), succ_cast hi (by omega), List.take_succ_eq_append_getElem hin, numsF_getElem]) 0 (Nat.zero_le _)
  refine Ev.congr (f := fun k => impl_table_numbers.l0 k (tabF n f) [] (n : Int) 0) (fun k => ?_) (by simpa using q)
  unfold impl_table_numbers.f
  rw [tabF_length]
end Go.Proofs.Ytagdkekkbdonfaa.Plain

/- The reference's test of a party. No condition but a length that fits. -/
namespace Go.Proofs.Ytagdkekkbdonfaa.Plain
open Go.RowKit Go.Proofs.YtagdkekkbdonfaaW.PrintWords Go.Proofs.YtagdkekkbdonfaaW.PrintLast
set_option linter.unusedVariables false
open Q

/-- All pairs of n people. -/
def pairsOf (n : Nat) : List (Nat × Nat) := (List.range n).flatMap fun a => ((List.range n).filter fun b => decide (a < b)).map fun b => (a, b)

theorem pairsOf_length : ∀ n : Fin 13, (((pairsOf n.val).length : Nat) : Int) = (n.val : Int) * ((n.val : Int) - 1) / 2 := by decide +kernel

theorem mem_pairsOf {n a b : Nat} (h : a < b) (hb : b < n) : (a, b) ∈ pairsOf n := by
  unfold pairsOf
  rw [List.mem_flatMap]
  exact ⟨a, List.mem_range.mpr (by omega), List.mem_map.mpr ⟨b, List.mem_filter.mpr ⟨List.mem_range.mpr hb, by simpa using h⟩, rfl⟩⟩

/-- There are no more pairs in a party than pairs of its people. -/
theorem party_len {n : Nat} {l : List Pr} (hn : n ≤ 12) (hr : Right n l) (hs : ∀ i j, (hj : j < l.length) → (hij : i < j) → lessB l[i] l[j] = true) : (l.length : Int) ≤ (n : Int) * ((n : Int) - 1) / 2 := by
  have hnd : (l.map fun x => (x.f0.toNat, x.f1.toNat)).Nodup := by
    rw [List.nodup_iff_pairwise_ne, List.pairwise_iff_getElem]
    intro i j hi hj hij e
    simp only [List.length_map] at hi hj
    simp only [List.getElem_map, Prod.mk.injEq] at e
    have s := hs i j hj hij
    have r1 := hr _ (List.getElem_mem hi)
    have r2 := hr _ (List.getElem_mem hj)
    unfold lessB at s
    simp only [Bool.or_eq_true, Bool.and_eq_true, decide_eq_true_eq] at s
    omega
  have hsub : (l.map fun x => (x.f0.toNat, x.f1.toNat)) ⊆ pairsOf n := by
    intro p hp
    obtain ⟨x, hx, rfl⟩ := List.mem_map.1 hp
    have := hr x hx
    exact mem_pairsOf (by omega) (by omega)
  have h1 := List.Nodup.length_le_of_subset hnd hsub
  rw [List.length_map] at h1
  have h2 := pairsOf_length ⟨n, by omega⟩
  simp only [] at h2
  omega

theorem bound_eq {n : Int} (h0 : 0 ≤ n) (h1 : n ≤ 12) : wrap64 (Int.tdiv (wrap64 (n * (wrap64 (n - 1)))) 2) = n * (n - 1) / 2 := by
  have : n = 0 ∨ n = 1 ∨ n = 2 ∨ n = 3 ∨ n = 4 ∨ n = 5 ∨ n = 6 ∨ n = 7 ∨ n = 8 ∨ n = 9 ∨ n = 10 ∨ n = 11 ∨ n = 12 := by omega
  rcases this with rfl | rfl | rfl | rfl | rfl | rfl | rfl | rfl | rfl | rfl | rfl | rfl | rfl <;> decide +kernel

theorem paPeople_eq (n : Int) : spec_paPeople.f n = some (decide (0 ≤ n) && decide (n ≤ 12)) := by
  unfold spec_paPeople.f
  rw [l1In_eq]; rfl

theorem paGood_l0 (n : Int) (l : List Pr) (h0 : 0 ≤ n) (h1 : n ≤ 12) (h : l.length ≤ 9223372036854775807) : Ev (fun k => spec_paGood.l0 k l (l.length : Int) 0 n l) ((List.range l.length).all (okAt n l)) := by
  have q := ev_up (n := l.length) (loop := fun k i => spec_paGood.l0 k l (l.length : Int) (i : Int) n l) (r := fun i => ((List.range l.length).drop i).all (okAt n l))
    (Ev.step (f := fun _ => some true) (fun k => by simp only [spec_paGood.l0]; rw [if_neg (by omega)]) (by rw [all_end _ (Nat.le_refl _)]; exact Ev.now _))
    (fun i hi ih => by
      rw [all_step (okAt n l) hi]
      have e0 : okAt n l i = (pairOk n l[i] && (decide (i = 0) || lessB (rdP l ((i : Int) - 1)) l[i])) := by
        unfold okAt rdP; rw [rdP_at hi]
      have wn : wrap64 (n - 1) = n - 1 := wrap_id (by omega) (by omega)
      by_cases a1 : 0 ≤ l[i].f0 ∧ l[i].f0 ≤ n - 1
      · have w1 : wrap64 (l[i].f0 + 1) = l[i].f0 + 1 := wrap_id (by omega) (by omega)
        have b1 : (decide (0 ≤ l[i].f0) && decide (l[i].f0 ≤ n - 1)) = true := by simpa using a1
        by_cases a2 : l[i].f0 + 1 ≤ l[i].f1 ∧ l[i].f1 ≤ n - 1
        · have b2 : (decide (l[i].f0 + 1 ≤ l[i].f1) && decide (l[i].f1 ≤ n - 1)) = true := by simpa using a2
          have ep : pairOk n l[i] = true := by simp [pairOk]; omega
          by_cases a4 : i = 0
          · have e : okAt n l i = true := by rw [e0, ep, decide_eq_true a4]; simp
            rw [e]
            refine Ev.step (f := fun k => spec_paGood.l0 k l (l.length : Int) ((i + 1 : Nat) : Int) n l) (fun k => ?_) (by simpa using ih)
            simp only [spec_paGood.l0]
            rw [if_pos (by omega), if_pos (by omega), if_pos (by omega), rdP_at hi, wn, l1In_eq, b1, Option.bind_some, if_pos rfl, w1, l1In_eq, b2, Option.bind_some, if_pos rfl, if_neg (by omega), succ_cast hi h]
          · have ew : wrap64 ((i : Int) - 1) = ((i - 1 : Nat) : Int) := pred_cast (by omega) (by omega)
            have ew2 : ((i : Int) - 1) = ((i - 1 : Nat) : Int) := by omega
            have e : okAt n l i = lessB l[i-1] l[i] := by
              rw [e0, ep, decide_eq_false a4, ew2]
              unfold rdP
              rw [rdP_at (by omega)]; simp
            rw [e]
            refine Ev.step (f := fun k => if lessB l[i-1] l[i] = true then spec_paGood.l0 k l (l.length : Int) ((i + 1 : Nat) : Int) n l else some false) (fun k => ?_) ?_
            · simp only [spec_paGood.l0]
              rw [if_pos (by omega), if_pos (by omega), if_pos (by omega), rdP_at hi, wn, l1In_eq, b1, Option.bind_some, if_pos rfl, w1, l1In_eq, b2, Option.bind_some, if_pos rfl, if_pos (by omega), ew, if_pos (by omega), if_pos (by omega), rdP_at (by omega : i - 1 < l.length), paLess_eq, Option.bind_some, succ_cast hi h]
            · cases hb : lessB l[i-1] l[i] with
              | true => exact ev_if (fun _ => by simpa using ih) (fun h => absurd rfl h)
              | false => exact ev_some (fun _ => by simp)
        · have b2 : (decide (l[i].f0 + 1 ≤ l[i].f1) && decide (l[i].f1 ≤ n - 1)) = false := by
            rw [Bool.eq_false_iff]; intro q; exact a2 (by simpa using q)
          have e : okAt n l i = false := by rw [e0]; simp [pairOk]; omega
          rw [e]
          refine Ev.step (f := fun _ => some false) (fun k => ?_) (by simpa using Ev.now false)
          simp only [spec_paGood.l0]
          rw [if_pos (by omega), if_pos (by omega), if_pos (by omega), rdP_at hi, wn, l1In_eq, b1, Option.bind_some, if_pos rfl, w1, l1In_eq, b2, Option.bind_some, if_neg (by simp)]
      · have b1 : (decide (0 ≤ l[i].f0) && decide (l[i].f0 ≤ n - 1)) = false := by
          rw [Bool.eq_false_iff]; intro q; exact a1 (by simpa using q)
        have e : okAt n l i = false := by rw [e0]; simp [pairOk]; omega
        rw [e]
        refine Ev.step (f := fun _ => some false) (fun k => ?_) (by simpa using Ev.now false)
        simp only [spec_paGood.l0]
        rw [if_pos (by omega), if_pos (by omega), if_pos (by omega), rdP_at hi, wn, l1In_eq, b1, Option.bind_some, if_neg (by simp)]) 0 (Nat.zero_le _)
  simpa using q

theorem paGood_ev (n : Int) (l : List Pr) (h : l.length ≤ 9223372036854775807) : Ev (fun k => spec_paGood.f k n l) (party n l) := by
  unfold spec_paGood.f
  refine ev_bind0 (paPeople_eq n) ?_
  cases hb : (decide (0 ≤ n) && decide (n ≤ 12)) with
  | false =>
    have e : party n l = false := by unfold party; rw [hb]; rfl
    rw [e]
    refine ev_if (fun h => by simp at h) (fun _ => ?_)
    exact Ev.step (f := fun _ => some false) (fun k => by simp [spec_paGood.j0]) (Ev.now _)
  | true =>
    have hn : 0 ≤ n ∧ n ≤ 12 := by simpa using hb
    have e : party n l = (List.range l.length).all (okAt n l) := by unfold party; rw [hb]; rfl
    refine ev_if (fun _ => ?_) (fun h => absurd rfl h)
    rw [bound_eq hn.1 hn.2]
    by_cases c : (l.length : Int) > n * (n - 1) / 2
    · refine Ev.step (f := fun _ => some false) (fun k => ?_) ?_
      · simp only [spec_paGood.j0]
        rw [if_pos (decide_eq_true c)]
      · cases hp : party n l with
        | false => exact Ev.now _
        | true =>
          exfalso
          obtain ⟨m, rfl, h12, hr, hs⟩ := party_right hp
          have := party_len h12 hr hs
          omega
    · rw [e]
      refine Ev.step (f := fun k => spec_paGood.l0 k l (l.length : Int) 0 n l) (fun k => ?_) (paGood_l0 n l hn.1 hn.2 h)
      simp only [spec_paGood.j0]
      rw [if_neg (by simpa using c)]
end Go.Proofs.Ytagdkekkbdonfaa.Plain

/- The law's own functions over parties, and the reference's test. No condition but lengths that fit. -/
namespace Go.Proofs.Ytagdkekkbdonfaa.Plain
open Go.RowKit Go.Proofs.YtagdkekkbdonfaaW.PrintWords Go.Proofs.YtagdkekkbdonfaaW.PrintLast
set_option linter.unusedVariables false
open Q

abbrev Lp := S85
/-- A pair of the law's as a pair of the program's. -/
def toP (x : Lp) : Pr := ⟨x.f0, x.f1⟩

theorem szParty_eq (n : Int) (l : List Lp) (a : Int) (h0 : 0 ≤ a) (h1 : a ≤ 1048576) (h : l.length ≤ 9223372036854775807) : laws_szParty.f n l a = some (if a < (l.length : Int) then -1 else a - l.length) := by
  unfold laws_szParty.f laws_szPairS.f
  rw [wrap_id (by omega) (by omega)]
  by_cases hl : a < (l.length : Int)
  · rw [if_pos (by omega), Option.bind_some, if_pos (by omega), if_pos hl]
  · rw [if_neg (by omega), Option.bind_some, if_neg (by omega), if_neg hl]

theorem rdLp_at {l : List Lp} {i : Nat} (h : i < l.length) : rd_T85 l (i : Int) = l[i] := by
  simp [rd_T85, List.getD, h]

theorem copy_map {α β : Type} (z : β) (g : α → β) (l : List α) (i : Nat) (h : i < l.length) :
    ((l.map g).take i ++ List.replicate (l.length - i) z).set ((i : Int)).toNat (g l[i]) = (l.map g).take (i + 1) ++ List.replicate (l.length - (i + 1)) z := by
  have e : l.length - i = (l.length - (i + 1)) + 1 := by omega
  have hl : ((l.map g).take i).length = i := by simp; omega
  have hm : i < (l.map g).length := by simpa using h
  rw [Int.toNat_natCast, e, List.replicate_succ, List.set_append_right _ _ (by omega), hl, Nat.sub_self, List.set_cons_zero, List.take_succ_eq_append_getElem hm, List.append_assoc, List.getElem_map]
  rfl

theorem toPairS_ev (l : List Lp) (h : l.length ≤ 17592186044416) : Ev (fun k => laws_toPairS.f k l) (l.map toP) := by
  refine Ev.congr (f := fun k => laws_toPairS.l0 k l (List.replicate l.length z71) 0) (fun k => ?_) ?_
  · unfold laws_toPairS.f
    rw [if_pos (by omega), if_pos (by omega), Int.toNat_natCast]
  · have q := ev_up (n := l.length) (loop := fun k i => laws_toPairS.l0 k l ((l.map toP).take i ++ List.replicate (l.length - i) z71) (i : Int)) (r := fun _ => l.map toP)
      (Ev.step (f := fun _ => some (l.map toP)) (fun k => by
        simp only [laws_toPairS.l0]
        rw [if_neg (by omega), Nat.sub_self, List.replicate_zero, List.append_nil, List.take_of_length_le (by simp)]) (Ev.now _))
      (fun i hi ih => Ev.step (f := fun k => laws_toPairS.l0 k l ((l.map toP).take (i + 1) ++ List.replicate (l.length - (i + 1)) z71) ((i + 1 : Nat) : Int)) (fun k => by
        simp only [laws_toPairS.l0]
        rw [if_pos (by omega), if_pos (by omega), rdLp_at hi]
        show (if (i : Int) < _ then laws_toPairS.l0 k l (List.set _ _ (toP l[i])) _ else none) = _
        rw [if_pos (by simp; omega), copy_map _ toP l i hi, succ_cast hi (by omega)]) ih) 0 (Nat.zero_le _)
    simpa using q

theorem toParty_ev (n : Int) (l : List Lp) (h : l.length ≤ 17592186044416) : Ev (fun k => laws_toParty.f k n l) (n, l.map toP) := by
  unfold laws_toParty.f
  exact Ev.bind (f := fun _ t => some (n, t)) (toPairS_ev l h) (Ev.now _)

theorem eqPair_eq (x : Pr) : laws_eqPair.f x.f0 x.f1 x.f0 x.f1 = some true := by
  unfold laws_eqPair.f
  rw [if_pos rfl, if_pos rfl]

theorem eqPairS_ev (l : List Pr) (h : l.length ≤ 9223372036854775807) : Ev (fun k => laws_eqPairS.f k l l) true := by
  refine Ev.congr (f := fun k => laws_eqPairS.l0 k l l 0) (fun k => ?_) ?_
  · unfold laws_eqPairS.f
    rw [if_pos rfl]
  · exact ev_up (n := l.length) (loop := fun k i => laws_eqPairS.l0 k l l (i : Int)) (r := fun _ => true)
      (Ev.step (f := fun _ => some true) (fun k => by simp [laws_eqPairS.l0]) (Ev.now true))
      (fun i hi ih => Ev.step (f := fun k => laws_eqPairS.l0 k l l ((i + 1 : Nat) : Int)) (fun k => by
        simp only [laws_eqPairS.l0]
        rw [if_pos (by omega), if_pos (by omega), if_pos (by omega), rdP_at hi, eqPair_eq, Option.bind_some, if_pos rfl, succ_cast hi h]) ih) 0 (Nat.zero_le _)

theorem eqParty_ev (n : Int) (l : List Pr) (h : l.length ≤ 9223372036854775807) : Ev (fun k => laws_eqParty.f k n l n l) true := by
  refine Ev.congr (f := fun k => (laws_eqPairS.f k l l).bind fun t => if t = true then some true else some false) (fun k => ?_) ?_
  · unfold laws_eqParty.f
    rw [if_pos rfl]
  · exact Ev.bind (f := fun _ t => if t = true then some true else some false) (eqPairS_ev l h) (ev_some (fun _ => rfl))
end Go.Proofs.Ytagdkekkbdonfaa.Plain

/- The party of a table, on both sides. No condition but that there are at most twelve people. -/
namespace Go.Proofs.Ytagdkekkbdonfaa.Plain
open Go.RowKit Go.Proofs.YtagdkekkbdonfaaW.PrintWords Go.Proofs.YtagdkekkbdonfaaW.PrintLast
set_option linter.unusedVariables false
open Q

theorem has_eq {n : Nat} (hn : n ≤ 12) (f : Nat → Nat → Bool) {a b : Nat} (ha : a < n) (hb : b < n) : impl_table_has.f (tabF n f) (a : Int) (b : Int) = some (f a b) := by
  unfold impl_table_has.f
  rw [if_pos (by omega), if_pos (by rw [tabF_length]; omega), if_pos (by omega), tabF_get ha]
  have hm := mask16 (f := f a) (n := n) (by omega)
  have e1 : shr .u16 ((maskOf (f a) n : Nat) : Int) (b : Int) = ((maskOf (f a) n / 2 ^ b : Nat) : Int) := by
    unfold shr
    have h1 : min ((b : Int)).toNat IntKind.u16.bits = b := by
      rw [Int.toNat_natCast]
      exact Nat.min_eq_left (by show b ≤ 16; omega)
    rw [h1]
    simp
  have hlt : maskOf (f a) n / 2 ^ b < 2 ^ 16 := Nat.lt_of_le_of_lt (Nat.div_le_self _ _) hm
  have e2 : Go.bits .and .u16 ((maskOf (f a) n / 2 ^ b : Nat) : Int) 1 = (((maskOf (f a) n / 2 ^ b) % 2 : Nat) : Int) := by
    rw [show (1 : Int) = ((1 : Nat) : Int) by rfl, and16 hlt (by omega), Nat.and_one_is_mod]
  rw [e1, e2]
  have hb2 := maskOf_bit (f a) n b
  rw [Nat.testBit_eq_decide_div_mod_eq, decide_eq_true hb, Bool.true_and] at hb2
  congr 1
  rw [← hb2, Bool.eq_iff_iff, beq_iff_eq, decide_eq_true_eq]
  omega

end Go.Proofs.Ytagdkekkbdonfaa.Plain

/- Counting over people: sums, and that parties of at most twelve people in which each two have just one common friend are windmills. Plain lemmas. Conditions: the relation is symmetric, nobody is a friend of oneself, and the numbers of friends are even together. -/
namespace Go.Proofs.Ytagdkekkbdonfaa.Plain
open Go.RowKit Go.Proofs.YtagdkekkbdonfaaW.PrintWords Go.Proofs.YtagdkekkbdonfaaW.PrintLast
set_option linter.unusedVariables false
open Q

/-! Sums. -/
/-! How many hold: those that do. -/
/-! Each two have just one friend in common. -/
section
variable {n : Nat} {f : Nat → Nat → Bool}
def com (f : Nat → Nat → Bool) (n a b : Nat) : Nat := cnt (fun c => f a c && f b c) n
end
end Go.Proofs.Ytagdkekkbdonfaa.Plain

/- The program's IsFriendly. No condition but a length that fits. -/
namespace Go.Proofs.Ytagdkekkbdonfaa.Plain
open Go.RowKit Go.Proofs.YtagdkekkbdonfaaW.PrintWords Go.Proofs.YtagdkekkbdonfaaW.PrintLast
set_option linter.unusedVariables false
open Q

theorem common_eq {n : Nat} (hn : n ≤ 12) (f : Nat → Nat → Bool) {a b : Nat} (ha : a < n) (hb : b < n) : impl_table_common.f (tabF n f) (a : Int) (b : Int) = some ((com f n a b : Nat) : Int) := by
  unfold impl_table_common.f
  rw [if_pos (by omega), if_pos (by rw [tabF_length]; omega), if_pos (by omega), if_pos (by rw [tabF_length]; omega), tabF_get ha, tabF_get hb, and16 (mask16 (by omega)) (mask16 (by omega)), mask_and, count_mask (by omega)]
  rfl

/-- A party of somebody. -/
def someParty (n : Int) (l : List Pr) : Bool := party n l && decide (n > 0)

theorem isCrowded_ev (n : Int) (l : List Pr) (h : l.length ≤ 9223372036854775807) : Ev (fun k => impl_isCrowded.f k n l) (someParty n l) := by
  unfold impl_isCrowded.f someParty
  refine Ev.bind (isParty_ev n l h) ?_
  cases party n l with
  | true => exact ev_some (fun _ => by simp)
  | false => exact ev_some (fun _ => by simp)

end Go.Proofs.Ytagdkekkbdonfaa.Plain

/- The reference's common friends and its friendliness. No condition but that there are at most twelve people. -/
namespace Go.Proofs.Ytagdkekkbdonfaa.Plain
open Go.RowKit Go.Proofs.YtagdkekkbdonfaaW.PrintWords Go.Proofs.YtagdkekkbdonfaaW.PrintLast
set_option linter.unusedVariables false
open Q

/-- The common friends of two. -/
def comL (n : Nat) (f : Nat → Nat → Bool) (a b : Nat) : List Int := ((List.range n).filter fun c => f a c && f b c).map fun c : Nat => (c : Int)
theorem comL_length (n : Nat) (f : Nat → Nat → Bool) (a b : Nat) : (comL n f a b).length = com f n a b := by
  unfold comL com cnt
  rw [List.length_map, List.countP_eq_length_filter]

theorem cfCommon_ev {n : Nat} (hn : n ≤ 12) (f : Nat → Nat → Bool) {a b : Nat} (ha : a < n) (hb : b < n) : Ev (fun k => spec_cfCommon.f k (tabB n f) (a : Int) (b : Int)) (comL n f a b) := by
  unfold spec_cfCommon.f
  rw [tabB_length]
  have la : (rd_L4 (tabB n f) (a : Int)).length = n := by rw [tabB_get ha, rowB_length]
  have lb : (rd_L4 (tabB n f) (b : Int)).length = n := by rw [tabB_get hb, rowB_length]
  have va : ∀ c, c < n → rdOf false (rd_L4 (tabB n f) (a : Int)) (c : Int) = f a c := fun c hc => by rw [rdOfB_at (by rw [la]; exact hc)]; simp only [tabB_get ha, rowB_get]
  have vb : ∀ c, c < n → rdOf false (rd_L4 (tabB n f) (b : Int)) (c : Int) = f b c := fun c hc => by rw [rdOfB_at (by rw [lb]; exact hc)]; simp only [tabB_get hb, rowB_get]
  have q : ∀ d i acc, i ≤ n → n - i = d → List.length acc ≤ i → Ev (fun k => spec_cfCommon.l0 k (tabB n f) (a : Int) (b : Int) acc (n : Int) (i : Int)) (acc ++ (((List.range n).drop i).filter fun c => f a c && f b c).map fun c : Nat => (c : Int)) := by
    intro d
    induction d with
    | zero =>
      intro i acc hi hd _
      have e : i = n := by omega
      subst e
      rw [List.drop_of_length_le (by simp)]
      refine Ev.step (f := fun _ => some acc) (fun k => ?_) (by simpa using Ev.now acc)
      simp only [spec_cfCommon.l0]
      rw [if_neg (by omega)]
    | succ d ih =>
      intro i acc hi hd hacc
      have hin : i < n := by omega
      rw [List.drop_eq_getElem_cons (by simpa using hin), List.getElem_range]
      by_cases c1 : f a i = true
      · by_cases c2 : f b i = true
        · refine Ev.step (f := fun k => spec_cfCommon.l0 k (tabB n f) (a : Int) (b : Int) (acc ++ [(i : Int)]) (n : Int) ((i + 1 : Nat) : Int)) (fun k => ?_) (by
            have := ih (i + 1) (acc ++ [(i : Int)]) (by omega) (by omega) (by simp; omega)
            rw [List.filter_cons_of_pos (by simp [c1, c2])]
            simpa using this)
          simp only [spec_cfCommon.l0]
          rw [if_pos (by omega), if_pos (by omega), if_pos (by rw [tabB_length]; omega), if_pos (by omega), if_pos (by rw [la]; omega), va i hin, if_pos c1, if_pos (by omega), if_pos (by rw [tabB_length]; omega), if_pos (by rw [lb]; omega), vb i hin, if_pos c2, if_pos (by omega), succ_cast hin (by omega)]
        · refine Ev.step (f := fun k => spec_cfCommon.l0 k (tabB n f) (a : Int) (b : Int) acc (n : Int) ((i + 1 : Nat) : Int)) (fun k => ?_) (by
            rw [List.filter_cons_of_neg (by simp [c2])]
            exact ih (i + 1) acc (by omega) (by omega) (by omega))
          simp only [spec_cfCommon.l0]
          rw [if_pos (by omega), if_pos (by omega), if_pos (by rw [tabB_length]; omega), if_pos (by omega), if_pos (by rw [la]; omega), va i hin, if_pos c1, if_pos (by omega), if_pos (by rw [tabB_length]; omega), if_pos (by rw [lb]; omega), vb i hin, if_neg c2, succ_cast hin (by omega)]
      · refine Ev.step (f := fun k => spec_cfCommon.l0 k (tabB n f) (a : Int) (b : Int) acc (n : Int) ((i + 1 : Nat) : Int)) (fun k => ?_) (by
          rw [List.filter_cons_of_neg (by simp [c1])]
          exact ih (i + 1) acc (by omega) (by omega) (by omega))
        simp only [spec_cfCommon.l0]
        rw [if_pos (by omega), if_pos (by omega), if_pos (by rw [tabB_length]; omega), if_pos (by omega), if_pos (by rw [la]; omega), va i hin, if_neg c1, succ_cast hin (by omega)]
  have := q n 0 [] (Nat.zero_le _) rfl (by simp)
  simpa [comL] using this

end Go.Proofs.Ytagdkekkbdonfaa.Plain

/- The reference's and the program's EqualNumber. No condition. -/
namespace Go.Proofs.Ytagdkekkbdonfaa.Plain
open Go.RowKit Go.Proofs.YtagdkekkbdonfaaW.PrintWords Go.Proofs.YtagdkekkbdonfaaW.PrintLast
set_option linter.unusedVariables false
open Q

/-- Are all numbers of a list one. -/
def same (l : List Int) : Bool := l.all fun x => decide (x = rd l 0)

theorem compact_cons (x : Int) (l : List Int) : ∃ r, Go.Lib.compact (x :: l) = x :: r ∧ (r = [] ↔ same (x :: l) = true) := by
  have e0 : Go.Lib.compact (x :: l) = ((List.range (l.length + 1)).filter (Go.Lib.keeps (x :: l).toArray)).map ((x :: l).toArray[·]!) := by
    unfold Go.Lib.compact Go.Lib.compactUpTo
    rw [List.length_cons]
  have k0 : Go.Lib.keeps (x :: l).toArray 0 = true := by simp [Go.Lib.keeps]
  rw [List.range_succ_eq_map, List.filter_cons, if_pos k0, List.map_cons] at e0
  refine ⟨_, e0, ?_⟩
  rw [List.map_eq_nil_iff, List.filter_eq_nil_iff]
  have kp : ∀ j, (hj : j + 1 < (x :: l).length) → (Go.Lib.keeps (x :: l).toArray (j + 1) = true ↔ (x :: l)[j + 1] ≠ (x :: l)[j]) := by
    intro j hj
    have a1 : (x :: l).toArray[j + 1]! = (x :: l)[j + 1] := by rw [getElem!_pos (x :: l).toArray (j + 1) (by simpa using hj), List.getElem_toArray]
    have a2 : (x :: l).toArray[j + 1 - 1]! = (x :: l)[j] := by
      have h1 : j < (x :: l).length := by omega
      rw [Nat.add_sub_cancel, getElem!_pos (x :: l).toArray j (by simpa using h1), List.getElem_toArray]
    unfold Go.Lib.keeps
    rw [a1, a2, decide_eq_true_eq]
    constructor
    · rintro (h | h)
      · omega
      · exact h
    · exact fun h => .inr h
  unfold same
  rw [List.all_eq_true]
  have hd : rd (x :: l) 0 = x := rfl
  rw [hd]
  constructor
  · intro h
    have key : ∀ j, (hj : j < (x :: l).length) → (x :: l)[j] = x := by
      intro j
      induction j with
      | zero => intro _; rfl
      | succ j ih =>
        intro hj
        have h1 := h (j + 1) (List.mem_map.2 ⟨j, List.mem_range.2 (by simpa using hj), rfl⟩)
        have h2 := mt (kp j hj).2 h1
        rw [← ih (by omega)]
        exact Decidable.of_not_not h2
    intro y hy
    obtain ⟨j, hj, e⟩ := List.mem_iff_getElem.1 hy
    rw [decide_eq_true_eq, ← e]
    exact key j hj
  · intro h a ha
    obtain ⟨j, hj, rfl⟩ := List.mem_map.1 ha
    have hj' : j + 1 < (x :: l).length := by have := List.mem_range.1 hj; simpa using this
    intro c
    have h1 := h _ (List.getElem_mem hj')
    have h2 := h _ (List.getElem_mem (show j < (x :: l).length by omega))
    rw [decide_eq_true_eq] at h1 h2
    exact (kp j hj').1 c (by rw [h1, h2])

/-- What both sides tellE. -/
def tellE (n : Int) (l : List Pr) : Int × Bool := if party n l = true ∧ 0 < n ∧ same (numsF n.toNat (adj l)) = true then (rd (numsF n.toNat (adj l)) 0, true) else (0, false)

theorem nums_pos {m : Nat} (f : Nat → Nat → Bool) (h : 0 < m) : 0 ≤ rd (numsF m f) 0 := by
  have := numsF_get (n := m) (f := f) (a := 0) h
  rw [show ((0 : Nat) : Int) = 0 from rfl] at this
  omega

theorem cf_ev {m : Nat} {l : List Pr} (hm : m ≤ 12) (hr : Right m l) (hs : ∀ i j, (hj : j < l.length) → (hij : i < j) → lessB l[i] l[j] = true) (h : l.length ≤ 9223372036854775807) :
    Ev (fun k => spec_cfEqual.f k (m : Int) l) (if 0 < m ∧ same (numsF m (adj l)) = true then rd (numsF m (adj l)) 0 else -1) := by
  unfold spec_cfEqual.f
  refine Ev.bind (paNumbers_ev hm hr hs h) ?_
  have hz : (numsF m (adj l)).length = m := numsF_length _ _
  unfold same
  generalize numsF m (adj l) = z at hz
  have q := ev_up (n := z.length) (loop := fun k i => spec_cfEqual.l0 k z z (z.length : Int) (i : Int)) (r := fun i => if 0 < m ∧ (z.drop i).all (fun x => decide (x = rd z 0)) = true then rd z 0 else -1)
    (by
      rw [List.drop_eq_nil_of_le (Nat.le_refl _)]
      by_cases c : m = 0
      · refine Ev.step (f := fun _ => some (-1)) (fun k => by simp only [spec_cfEqual.l0]; rw [if_neg (by omega), if_pos (by omega)]) ?_
        rw [if_neg (by omega)]; exact Ev.now _
      · refine Ev.step (f := fun _ => some (rd z 0)) (fun k => by simp only [spec_cfEqual.l0]; rw [if_neg (by omega), if_neg (by omega), if_pos (by omega)]) ?_
        rw [if_pos ⟨by omega, rfl⟩]; exact Ev.now _)
    (fun i hi ih => by
      rw [List.drop_eq_getElem_cons hi, List.all_cons]
      by_cases c : z[i] = rd z 0
      · refine Ev.step (f := fun k => spec_cfEqual.l0 k z z (z.length : Int) ((i + 1 : Nat) : Int)) (fun k => ?_) ?_
        · simp only [spec_cfEqual.l0]
          rw [if_pos (by omega), if_pos (by omega), if_pos (by omega), if_pos (by omega), rd_at hi, if_pos c, succ_cast hi (by omega)]
        · rw [decide_eq_true c, Bool.true_and]; exact ih
      · refine Ev.step (f := fun _ => some (-1)) (fun k => ?_) ?_
        · simp only [spec_cfEqual.l0]
          rw [if_pos (by omega), if_pos (by omega), if_pos (by omega), if_pos (by omega), rd_at hi, if_neg c]
        · rw [decide_eq_false c, Bool.false_and, if_neg (by simp)]; exact Ev.now _) 0 (Nat.zero_le _)
  rw [List.drop_zero] at q
  exact q

theorem equal_impl_ev (n : Int) (l : List Pr) (h : l.length ≤ 9223372036854775807) : Ev (fun k => impl_EqualNumber.f k n l) (tellE n l) := by
  unfold impl_EqualNumber.f
  refine Ev.bind (isCrowded_ev n l h) ?_
  unfold someParty
  refine ev_if (fun c => ?_) (fun c => ?_)
  · simp only [Bool.and_eq_true, decide_eq_true_eq] at c
    obtain ⟨b, c0⟩ := c
    obtain ⟨m, rfl, hm, hr, hs⟩ := party_right b
    unfold tellE
    rw [Int.toNat_natCast]
    refine Ev.bind (table_ev hm hr h) ?_
    refine Ev.bind (numbers_ev hm (adj l)) ?_
    have hz : (numsF m (adj l)).length = m := numsF_length _ _
    generalize numsF m (adj l) = z at hz
    cases z with
    | nil => simp at hz; omega
    | cons x z =>
      obtain ⟨r, e, hr'⟩ := compact_cons x z
      rw [e]
      by_cases d : same (x :: z) = true
      · have hrn := hr'.2 d
        subst hrn
        have ht : (if party (m : Int) l = true ∧ 0 < (m : Int) ∧ same (x :: z) = true then (rd (x :: z) 0, true) else (0, false)) = (rd (x :: z) 0, true) := if_pos ⟨b, c0, d⟩
        rw [ht]
        refine ev_if (fun q => absurd q (by simp)) (fun _ => ?_)
        refine ev_if (fun _ => ?_) (fun q => absurd (by simp) q)
        exact Ev.now _
      · have hrn : r ≠ [] := fun q => d (hr'.1 q)
        have hl : 0 < r.length := List.length_pos_iff.2 hrn
        have ht : (if party (m : Int) l = true ∧ 0 < (m : Int) ∧ same (x :: z) = true then (rd (x :: z) 0, true) else (0, false)) = (0, false) := if_neg (fun q => d q.2.2)
        rw [ht]
        refine ev_if (fun _ => ?_) (fun q => absurd (by simp only [List.length_cons]; omega) q)
        exact Ev.now _
  · unfold tellE
    rw [if_neg (fun q => c (by simp only [Bool.and_eq_true, decide_eq_true_eq]; exact ⟨q.1, by omega⟩))]
    exact Ev.now _

end Go.Proofs.Ytagdkekkbdonfaa.Plain

/- The reference's other party: friends are who were none. No condition but that there are at most twelve people. -/
namespace Go.Proofs.Ytagdkekkbdonfaa.Plain
open Go.RowKit Go.Proofs.YtagdkekkbdonfaaW.PrintWords Go.Proofs.YtagdkekkbdonfaaW.PrintLast
set_option linter.unusedVariables false
open Q

end Go.Proofs.Ytagdkekkbdonfaa.Plain

/- The laws' marks: written into a list and found again. No condition but a length that fits. -/
namespace Go.Proofs.Ytagdkekkbdonfaa.Plain
open Go.RowKit Go.Proofs.YtagdkekkbdonfaaW.PrintWords Go.Proofs.YtagdkekkbdonfaaW.PrintLast
set_option linter.unusedVariables false
open Q

/-- The marks of n pairs from v on. -/
def marksP (v : Int) (n : Nat) : List Pr := (List.range n).map fun i : Nat => ⟨v + 2 * (i : Int), v + 2 * (i : Int) + 1⟩
/-- The marks of n numbers from v on. -/
def marksI (v : Int) (n : Nat) : List Int := (List.range n).map fun i : Nat => v + (i : Int)
theorem marksP_length (v : Int) (n : Nat) : (marksP v n).length = n := by simp [marksP]
theorem marksI_length (v : Int) (n : Nat) : (marksI v n).length = n := by simp [marksI]
theorem marksP_get {v : Int} {n i : Nat} (h : i < (marksP v n).length) : (marksP v n)[i] = ⟨v + 2 * (i : Int), v + 2 * (i : Int) + 1⟩ := by simp [marksP]
theorem marksI_get {v : Int} {n i : Nat} (h : i < (marksI v n).length) : (marksI v n)[i] = v + (i : Int) := by simp [marksI]

theorem marksP_step (v : Int) (l : List Pr) {i : Nat} (hi : i < l.length) (x : Pr) (hx : x = ⟨v + 2 * (i : Int), v + 2 * (i : Int) + 1⟩) : (marksP v i ++ l.drop i).set i x = marksP v (i + 1) ++ l.drop (i + 1) := by
  apply List.ext_getElem
  · simp [marksP_length]; omega
  · intro j h1 h2
    rw [List.getElem_set]
    by_cases e : i = j
    · subst e
      rw [if_pos rfl, List.getElem_append_left (by rw [marksP_length]; omega), marksP_get, hx]
    · rw [if_neg e]
      by_cases c : j < i
      · rw [List.getElem_append_left (by rw [marksP_length]; omega), List.getElem_append_left (by rw [marksP_length]; omega), marksP_get, marksP_get]
      · rw [List.getElem_append_right (by rw [marksP_length]; omega), List.getElem_append_right (by rw [marksP_length]; omega), List.getElem_drop, List.getElem_drop]
        congr 1
        rw [marksP_length, marksP_length]
        omega
theorem marksI_step (v : Int) (l : List Int) {i : Nat} (hi : i < l.length) : (marksI v i ++ l.drop i).set i (v + (i : Int)) = marksI v (i + 1) ++ l.drop (i + 1) := by
  apply List.ext_getElem
  · simp [marksI_length]; omega
  · intro j h1 h2
    rw [List.getElem_set]
    by_cases e : i = j
    · subst e
      rw [if_pos rfl, List.getElem_append_left (by rw [marksI_length]; omega), marksI_get]
    · rw [if_neg e]
      by_cases c : j < i
      · rw [List.getElem_append_left (by rw [marksI_length]; omega), List.getElem_append_left (by rw [marksI_length]; omega), marksI_get, marksI_get]
      · rw [List.getElem_append_right (by rw [marksI_length]; omega), List.getElem_append_right (by rw [marksI_length]; omega), List.getElem_drop, List.getElem_drop]
        congr 1
        rw [marksI_length, marksI_length]
        omega

theorem markPairS_ev (l : List Pr) (v : Int) (h : l.length ≤ 1152921504606846976) (h0 : 0 ≤ v) (h1 : v ≤ 1000) : Ev (fun k => laws_markPairS.f k l v) (v + 2 * (l.length : Int), marksP v l.length) := by
  have q := ev_up (n := l.length) (loop := fun k i => laws_markPairS.l0 k (marksP v i ++ l.drop i) (v + 2 * (i : Int)) (i : Int)) (r := fun _ => (v + 2 * (l.length : Int), marksP v l.length))
    (by
      refine Ev.step (f := fun _ => some (v + 2 * (l.length : Int), marksP v l.length)) (fun k => ?_) (Ev.now _)
      simp only [laws_markPairS.l0]
      rw [List.drop_length, List.append_nil, if_neg (by rw [marksP_length]; omega)])
    (fun i hi ih => by
      have hlen : (marksP v i ++ l.drop i).length = l.length := by rw [List.length_append, marksP_length, List.length_drop]; omega
      have w1 : wrap64 (v + 2 * (i : Int) + 1) = v + 2 * (i : Int) + 1 := wrap_id (by omega) (by omega)
      have w2 : wrap64 (v + 2 * (i : Int) + 1 + 1) = v + 2 * ((i + 1 : Nat) : Int) := by rw [wrap_id (by omega) (by omega)]; omega
      refine Ev.step (f := fun k => laws_markPairS.l0 k (marksP v (i + 1) ++ l.drop (i + 1)) (v + 2 * ((i + 1 : Nat) : Int)) ((i + 1 : Nat) : Int)) (fun k => ?_) ih
      simp only [laws_markPairS.l0]
      rw [if_pos (by rw [hlen]; omega), if_pos (by omega), Option.bind_some, w1, w2, succ_cast hi (by omega), Int.toNat_natCast, List.set_set]
      rw [marksP_step v l hi _ (by rw [rdP_at (by rw [List.length_set, hlen]; exact hi), List.getElem_set_self])]) 0 (Nat.zero_le _)
  have e : marksP v 0 ++ l.drop 0 = l := by simp [marksP]
  rw [e] at q
  simpa [laws_markPairS.f] using q

theorem markIntS_ev (l : List Int) (v : Int) (h : l.length ≤ 1152921504606846976) (h0 : 0 ≤ v) (h1 : v ≤ 1152921504606846976) : Ev (fun k => laws_markIntS.f k l v) (v + (l.length : Int), marksI v l.length) := by
  have q := ev_up (n := l.length) (loop := fun k i => laws_markIntS.l0 k (marksI v i ++ l.drop i) (v + (i : Int)) (i : Int)) (r := fun _ => (v + (l.length : Int), marksI v l.length))
    (by
      refine Ev.step (f := fun _ => some (v + (l.length : Int), marksI v l.length)) (fun k => ?_) (Ev.now _)
      simp only [laws_markIntS.l0]
      rw [List.drop_length, List.append_nil, if_neg (by rw [marksI_length]; omega)])
    (fun i hi ih => by
      have hlen : (marksI v i ++ l.drop i).length = l.length := by rw [List.length_append, marksI_length, List.length_drop]; omega
      have w1 : wrap64 (v + (i : Int) + 1) = v + ((i + 1 : Nat) : Int) := by rw [wrap_id (by omega) (by omega)]; omega
      refine Ev.step (f := fun k => laws_markIntS.l0 k (marksI v (i + 1) ++ l.drop (i + 1)) (v + ((i + 1 : Nat) : Int)) ((i + 1 : Nat) : Int)) (fun k => ?_) ih
      simp only [laws_markIntS.l0]
      rw [if_pos (by rw [hlen]; omega), if_pos (by omega), w1, succ_cast hi (by omega), Int.toNat_natCast, marksI_step v l hi]) 0 (Nat.zero_le _)
  have e : marksI v 0 ++ l.drop 0 = l := by simp [marksI]
  rw [e] at q
  simpa [laws_markIntS.f] using q

theorem heldIntS_ev (n : Nat) (v : Int) (h : n ≤ 1152921504606846976) (h0 : 0 ≤ v) (h1 : v ≤ 1152921504606846976) : Ev (fun k => laws_heldIntS.f k (marksI v n) v) (v + (n : Int)) := by
  have hl := marksI_length v n
  have q := ev_up (n := n) (loop := fun k i => laws_heldIntS.l0 k (marksI v n) (v + (i : Int)) (i : Int)) (r := fun _ => v + (n : Int))
    (Ev.step (f := fun _ => some (v + (n : Int))) (fun k => by simp only [laws_heldIntS.l0]; rw [if_neg (by rw [hl]; omega)]) (Ev.now _))
    (fun i hi ih => by
      have w1 : wrap64 (v + (i : Int) + 1) = v + ((i + 1 : Nat) : Int) := by rw [wrap_id (by omega) (by omega)]; omega
      refine Ev.step (f := fun k => laws_heldIntS.l0 k (marksI v n) (v + ((i + 1 : Nat) : Int)) ((i + 1 : Nat) : Int)) (fun k => ?_) ih
      simp only [laws_heldIntS.l0]
      rw [if_pos (by rw [hl]; omega), if_pos (by omega), rd_at (by rw [hl]; exact hi), marksI_get, if_pos rfl, w1, succ_cast hi (by omega)]) 0 (Nat.zero_le _)
  simpa [laws_heldIntS.f] using q

theorem markParty_ev (n : Int) (l : List Pr) (h : l.length ≤ 1152921504606846976) : Ev (fun k => laws_markParty.f k n l 1) (1 + 2 * (l.length : Int), marksP 1 l.length) := by
  unfold laws_markParty.f
  exact Ev.bind (f := fun _ bt => some (bt.1, bt.2)) (markPairS_ev l 1 h (by omega) (by omega)) (Ev.now _)

end Go.Proofs.Ytagdkekkbdonfaa.Plain

/- The others of a table. No condition but that there are at most twelve people. -/
namespace Go.Proofs.Ytagdkekkbdonfaa.Plain
open Go.RowKit Go.Proofs.YtagdkekkbdonfaaW.PrintWords Go.Proofs.YtagdkekkbdonfaaW.PrintLast
set_option linter.unusedVariables false
open Q

theorem andNot16_o (f g : Nat → Bool) {n : Nat} (hn : n ≤ 16) : Go.bits .andNot .u16 ((maskOf f n : Nat) : Int) ((maskOf g n : Nat) : Int) = ((maskOf (fun b => f b && !g b) n : Nat) : Int) := by
  have ha := mask16 (f := f) hn
  have hb := mask16 (f := g) hn
  have e : (BitVec.ofNat 16 (maskOf f n) &&& ~~~BitVec.ofNat 16 (maskOf g n)).toNat = maskOf (fun b => f b && !g b) n := by
    apply Nat.eq_of_testBit_eq
    intro j
    rw [BitVec.testBit_toNat, BitVec.getLsbD_and, BitVec.getLsbD_not, BitVec.getLsbD_ofNat, BitVec.getLsbD_ofNat, maskOf_bit, maskOf_bit, maskOf_bit]
    by_cases c : j < n
    · have c2 : j < 16 := by omega
      simp [c, c2]
    · simp [c]
  show IntKind.u16.wrap (((BitVec.ofInt 16 ((maskOf f n : Nat) : Int) &&& ~~~BitVec.ofInt 16 ((maskOf g n : Nat) : Int)).toNat : Nat) : Int) = _
  rw [BitVec.ofInt_natCast, BitVec.ofInt_natCast, e]
  have := mask16 (f := fun b => f b && !g b) hn
  exact wraps_u16 _ (by omega) (by omega)
/-- Strangers, two different people. -/
def notF (f : Nat → Nat → Bool) : Nat → Nat → Bool := fun a b => decide (a ≠ b) && !f a b
theorem others_ev {n : Nat} (hn : n ≤ 12) (f : Nat → Nat → Bool) : Ev (fun k => impl_table_others.f k (tabF n f)) (tabF n (notF f)) := by
  have hT : (tabF n f).length = n := tabF_length _ _
  unfold impl_table_others.f
  rw [hT]
  refine ev_if (fun _ => ?_) (fun c => absurd (by omega) c)
  refine ev_if (fun _ => ?_) (fun c => absurd (by omega) c)
  rw [Int.toNat_natCast]
  have hall : maskOf (fun _ => true) n = 2 ^ n - 1 := by
    apply Nat.eq_of_testBit_eq
    intro j
    rw [maskOf_bit, Nat.testBit_two_pow_sub_one, Bool.and_true]
  have hpos : 0 < 2 ^ n := Nat.two_pow_pos n
  have hfull : IntKind.u16.wrap (shl .u16 1 (n : Int) - 1) = ((maskOf (fun _ => true) n : Nat) : Int) := by
    have := mask16 (f := fun _ => true) (n := n) (by omega)
    rw [shl16 (by omega), show ((2 ^ n : Nat) : Int) - 1 = ((maskOf (fun _ => true) n : Nat) : Int) by omega]
    exact wraps_u16 _ (by omega) (by omega)
  have q := ev_up (n := n) (loop := fun k i => impl_table_others.l0 k (tabF n f) ((tabF n (notF f)).take i ++ List.replicate (n - i) 0) (n : Int) (i : Int)) (r := fun _ => tabF n (notF f))
    (Ev.step (f := fun _ => some (tabF n (notF f))) (fun k => by
      simp only [impl_table_others.l0]
      rw [if_neg (by omega), Nat.sub_self, List.replicate_zero, List.append_nil, List.take_of_length_le (by rw [tabF_length]; omega)]) (Ev.now _))
    (fun i hi ih => by
      have hv : Go.bits .andNot .u16 (Go.bits .andNot .u16 (IntKind.u16.wrap ((shl .u16 1 (n : Int)) - 1)) (rd (tabF n f) (i : Int))) (shl .u16 1 (i : Int)) = rd (tabF n (notF f)) (i : Int) := by
        rw [hfull, tabF_get hi, tabF_get hi, andNot16_o _ _ (by omega), shl16 (by omega), mask_one hi, andNot16_o _ _ (by omega)]
        congr 1
        apply maskOf_congr
        intro b hb
        unfold notF
        by_cases e : b = i
        · subst e; simp
        · have e2 : i ≠ b := fun z => e z.symm
          simp [e, e2]
      have hc := copy_step (tabF n (notF f)) i (by rw [tabF_length]; exact hi)
      rw [tabF_length] at hc
      refine Ev.step (f := fun k => impl_table_others.l0 k (tabF n f) ((tabF n (notF f)).take (i + 1) ++ List.replicate (n - (i + 1)) 0) (n : Int) ((i + 1 : Nat) : Int)) (fun k => ?_) ih
      simp only [impl_table_others.l0]
      rw [hT, hv, hc, if_pos (by omega), if_pos (by omega), if_pos (by omega), if_pos (by rw [List.length_append, List.length_take, List.length_replicate, tabF_length]; omega), succ_cast hi (by omega)]) 0 (Nat.zero_le _)
  simpa using q
end Go.Proofs.Ytagdkekkbdonfaa.Plain
/- The program's StrongNumbers returns what the reference's returns, for all arguments. No condition. -/
namespace Go.Proofs.Ytagdkekkbdonfaa.Pure
open Go.RowKit Go.Proofs.YtagdkekkbdonfaaW.PrintWords Go.Proofs.YtagdkekkbdonfaaW.PrintLast
set_option linter.unusedVariables false
open Q Plain

/-- One pair met: the number of its common friends, and whether one number still serves. -/
def pt (c : Nat → Nat → Nat) (h : Nat → Nat → Bool) (s : Int × Bool) (p : Nat × Nat) : Int × Bool := if h p.1 p.2 = true then ((c p.1 p.2 : Nat), if 0 ≤ s.1 then (if ((c p.1 p.2 : Nat) : Int) = s.1 then s.2 else false) else s.2) else s
def run (c : Nat → Nat → Nat) (h : Nat → Nat → Bool) (l : List (Nat × Nat)) (o : Int) (b : Bool) : Int × Bool := l.foldl (pt c h) (o, b)
theorem run_cons (c : Nat → Nat → Nat) (h : Nat → Nat → Bool) (p : Nat × Nat) (l : List (Nat × Nat)) (o : Int) (b : Bool) : run c h (p :: l) o b = run c h l (pt c h (o, b) p).1 (pt c h (o, b) p).2 := rfl
theorem run_ok (c : Nat → Nat → Nat) (h : Nat → Nat → Bool) : ∀ (l : List (Nat × Nat)) (o : Int) (b : Bool), run c h l o b = ((run c h l o true).1, b && (run c h l o true).2)
  | [], o, b => by simp [run]
  | p :: l, o, b => by
    rw [run_cons, run_cons]
    unfold pt
    by_cases e : h p.1 p.2 = true
    · simp only [if_pos e]
      by_cases e2 : 0 ≤ o
      · simp only [if_pos e2]
        by_cases e3 : ((c p.1 p.2 : Nat) : Int) = o
        · simp only [if_pos e3]; exact run_ok c h l _ b
        · simp only [if_neg e3]
          rw [run_ok c h l _ false]
          simp
      · simp only [if_neg e2]; exact run_ok c h l _ b
    · simp only [if_neg e]; exact run_ok c h l o b
/-- The reference's way through the pairs. -/
def both (c : Nat → Nat → Nat) (f : Nat → Nat → Bool) : List (Nat × Nat) → Int → Int → Option (Int × Int)
  | [], p, s => some (p, s)
  | a :: l, p, s => if f a.1 a.2 = true then (if 0 ≤ p then (if p = ((c a.1 a.2 : Nat) : Int) then both c f l ((c a.1 a.2 : Nat) : Int) s else none) else both c f l ((c a.1 a.2 : Nat) : Int) s) else (if 0 ≤ s then (if s = ((c a.1 a.2 : Nat) : Int) then both c f l p ((c a.1 a.2 : Nat) : Int) else none) else both c f l p ((c a.1 a.2 : Nat) : Int))
theorem both_run (c : Nat → Nat → Nat) (f g : Nat → Nat → Bool) : ∀ (l : List (Nat × Nat)) (p s : Int), (∀ a ∈ l, g a.1 a.2 = !f a.1 a.2) → both c f l p s = if (run c f l p true).2 = true ∧ (run c g l s true).2 = true then some ((run c f l p true).1, (run c g l s true).1) else none
  | [], p, s, _ => by simp [both, run]
  | a :: l, p, s, hg => by
    have hl : ∀ x ∈ l, g x.1 x.2 = !f x.1 x.2 := fun x hx => hg x (by simp [hx])
    have ha := hg a (by simp)
    rw [run_cons, run_cons]
    unfold both pt
    by_cases e : f a.1 a.2 = true
    · have e' : ¬ g a.1 a.2 = true := by rw [ha, e]; simp
      simp only [if_pos e, if_neg e']
      by_cases e2 : 0 ≤ p
      · simp only [if_pos e2]
        by_cases e3 : p = ((c a.1 a.2 : Nat) : Int)
        · rw [if_pos e3, if_pos e3.symm]; exact both_run c f g l _ s hl
        · rw [if_neg e3, show (if ((c a.1 a.2 : Nat) : Int) = p then true else false) = false from if_neg (fun q => e3 q.symm), run_ok c f l _ false]
          simp
      · simp only [if_neg e2]; exact both_run c f g l _ s hl
    · have e' : g a.1 a.2 = true := by rw [ha]; simpa using e
      simp only [if_neg e, if_pos e']
      by_cases e2 : 0 ≤ s
      · simp only [if_pos e2]
        by_cases e3 : s = ((c a.1 a.2 : Nat) : Int)
        · rw [if_pos e3, if_pos e3.symm]; exact both_run c f g l p _ hl
        · rw [if_neg e3, show (if ((c a.1 a.2 : Nat) : Int) = s then true else false) = false from if_neg (fun q => e3 q.symm), run_ok c g l _ false]
          simp
      · simp only [if_neg e2]; exact both_run c f g l p _ hl
def rowP (x y : Nat) : List (Nat × Nat) := ((List.range x).drop y).map fun b => (x, b)
def restP (n x : Nat) : List (Nat × Nat) := ((List.range n).drop x).flatMap fun a => rowP a 0
theorem rowP_end (x : Nat) : rowP x x = [] := by unfold rowP; rw [List.drop_of_length_le (by simp)]; rfl
theorem rowP_step {x y : Nat} (h : y < x) : rowP x y = (x, y) :: rowP x (y + 1) := by
  unfold rowP
  rw [List.drop_eq_getElem_cons (by simpa using h), List.getElem_range, List.map_cons]
theorem restP_end (n : Nat) : restP n n = [] := by unfold restP; rw [List.drop_of_length_le (by simp)]; rfl
theorem restP_step {n x : Nat} (h : x < n) : restP n x = rowP x 0 ++ restP n (x + 1) := by
  unfold restP
  rw [List.drop_eq_getElem_cons (by simpa using h), List.getElem_range, List.flatMap_cons]
theorem restP_mem {n x : Nat} {a : Nat × Nat} (h : a ∈ restP n x) : a.1 < n ∧ a.2 < a.1 := by
  unfold restP at h
  obtain ⟨b, hb, ha⟩ := List.mem_flatMap.1 h
  unfold rowP at ha
  obtain ⟨d, hd, rfl⟩ := List.mem_map.1 ha
  exact ⟨by simpa using List.mem_of_mem_drop hb, by simpa using hd⟩

theorem sweep_ev {n : Nat} (hn : n ≤ 12) (f h : Nat → Nat → Bool) (b : Bool) : Ev (fun k => impl_StrongNumbers_1.f k (tabF n f) (tabF n h) b) (run (com f n) h (restP n 0) (-1) b) := by
  unfold impl_StrongNumbers_1.f
  have hT : (tabF n f).length = n := tabF_length _ _
  have q : ∀ d x, n - x = d → x ≤ n → ∀ out ok, Ev (fun k => impl_StrongNumbers_1.l0 k (tabF n f) (tabF n h) out ok (x : Int)) (run (com f n) h (restP n x) out ok) := by
    intro d
    induction d with
    | zero =>
      intro x hd hx out ok
      obtain rfl : x = n := by omega
      refine Ev.step (f := fun _ => some (out, ok)) (fun k => by simp only [impl_StrongNumbers_1.l0]; rw [hT, if_neg (by omega)]) ?_
      rw [restP_end]
      exact Ev.now _
    | succ d ih =>
      intro x hd hx out ok
      have hxn : x < n := by omega
      rw [restP_step hxn]
      have q2 : ∀ e y, x - y = e → y ≤ x → ∀ out ok, Ev (fun k => impl_StrongNumbers_1.l1 k (tabF n f) (tabF n h) out ok (x : Int) (y : Int)) (run (com f n) h (rowP x y ++ restP n (x + 1)) out ok) := by
        intro e
        induction e with
        | zero =>
          intro y he hy out ok
          obtain rfl : y = x := by omega
          rw [rowP_end, List.nil_append]
          refine Ev.step (f := fun k => impl_StrongNumbers_1.l0 k (tabF n f) (tabF n h) out ok ((y + 1 : Nat) : Int)) (fun k => by simp only [impl_StrongNumbers_1.l1]; rw [if_neg (by omega), succ_cast hxn (by omega)]) ?_
          exact ih (y + 1) (by omega) (by omega) out ok
        | succ e ih2 =>
          intro y he hy out ok
          have hyx : y < x := by omega
          rw [rowP_step hyx, List.cons_append, run_cons]
          unfold pt
          by_cases c : h x y = true
          · rw [if_pos c]
            refine Ev.step (f := fun k => impl_StrongNumbers_1.l1 k (tabF n f) (tabF n h) ((com f n x y : Nat) : Int) (if 0 ≤ out then (if ((com f n x y : Nat) : Int) = out then ok else false) else ok) (x : Int) ((y + 1 : Nat) : Int)) (fun k => by
              simp only [impl_StrongNumbers_1.l1]
              rw [if_pos (by omega), common_eq hn f hxn (show y < n by omega), Option.bind_some, has_eq hn h hxn (show y < n by omega), Option.bind_some, if_pos c, succ_cast hyx (by omega)]) ?_
            exact ih2 (y + 1) (by omega) (by omega) _ _
          · rw [if_neg c]
            refine Ev.step (f := fun k => impl_StrongNumbers_1.l1 k (tabF n f) (tabF n h) out ok (x : Int) ((y + 1 : Nat) : Int)) (fun k => by
              simp only [impl_StrongNumbers_1.l1]
              rw [if_pos (by omega), common_eq hn f hxn (show y < n by omega), Option.bind_some, has_eq hn h hxn (show y < n by omega), Option.bind_some, if_neg c, succ_cast hyx (by omega)]) ?_
            exact ih2 (y + 1) (by omega) (by omega) _ _
      refine Ev.step (f := fun k => impl_StrongNumbers_1.l1 k (tabF n f) (tabF n h) out ok (x : Int) ((0 : Nat) : Int)) (fun k => by simp only [impl_StrongNumbers_1.l0]; rw [hT, if_pos (by omega)]; rfl) ?_
      exact q2 x 0 (by omega) (by omega) out ok
  exact q n 0 (by omega) (by omega) (-1) b

/-- How the reference ends. -/
def fin (n e : Int) : Option (Int × Int) → List Int × Bool
  | none => ([], false)
  | some (p, s) => if p < 0 then ([], false) else if s < 0 then ([], false) else ([n, e, p, s], true)
theorem pass_ev {n : Nat} {l : List Pr} (hn : n ≤ 12) (f : Nat → Nat → Bool) (e : Int) (hE : Ev (fun k => spec_cfEqual.f k (n : Int) l) e) : Ev (fun k => spec_StrongNumbers.l0 k (tabB n f) (-1) (-1) (n : Int) 0 (n : Int) l) (fin (n : Int) e (both (com f n) f (restP n 0) (-1) (-1))) := by
  have hT : (tabB n f).length = n := tabB_length _ _
  have q : ∀ d x, n - x = d → x ≤ n → ∀ p s, Ev (fun k => spec_StrongNumbers.l0 k (tabB n f) p s (n : Int) (x : Int) (n : Int) l) (fin (n : Int) e (both (com f n) f (restP n x) p s)) := by
    intro d
    induction d with
    | zero =>
      intro x hd hx p s
      obtain rfl : x = n := by omega
      rw [restP_end]
      refine Ev.step (f := fun k => if p < 0 then (some (([] : List Int), false)) else (if s < 0 then (some (([] : List Int), false)) else ((spec_cfEqual.f k (x : Int) l).bind fun t161 => (some ((([(x : Int), t161, p, s] : List Int)), true))))) (fun k => by simp only [spec_StrongNumbers.l0]; rw [if_neg (by omega)]) ?_
      unfold both fin
      refine ev_if (fun c => by simp only [if_pos c]; exact Ev.now _) (fun c => ?_)
      simp only [if_neg c]
      refine ev_if (fun c => by simp only [if_pos c]; exact Ev.now _) (fun c => ?_)
      simp only [if_neg c]
      exact Ev.bind hE (Ev.now _)
    | succ d ih =>
      intro x hd hx p s
      have hxn : x < n := by omega
      have lx : (rd_L4 (tabB n f) (x : Int)).length = n := by rw [tabB_get hxn, rowB_length]
      have vx : ∀ y, y < n → rdOf false (rd_L4 (tabB n f) (x : Int)) (y : Int) = f x y := fun y hy => by rw [rdOfB_at (by rw [lx]; exact hy)]; simp only [tabB_get hxn, rowB_get]
      rw [restP_step hxn]
      have q2 : ∀ e_ y, x - y = e_ → y ≤ x → ∀ p s, Ev (fun k => spec_StrongNumbers.l1 k (tabB n f) p s (x : Int) (y : Int) (n : Int) (x : Int) (n : Int) l) (fin (n : Int) e (both (com f n) f (rowP x y ++ restP n (x + 1)) p s)) := by
        intro e_
        induction e_ with
        | zero =>
          intro y he hy p s
          obtain rfl : y = x := by omega
          rw [rowP_end, List.nil_append]
          refine Ev.step (f := fun k => spec_StrongNumbers.l0 k (tabB n f) p s (n : Int) ((y + 1 : Nat) : Int) (n : Int) l) (fun k => by simp only [spec_StrongNumbers.l1]; rw [if_neg (by omega), succ_cast hxn (by omega)]) ?_
          exact ih (y + 1) (by omega) (by omega) p s
        | succ e_ ih2 =>
          intro y he hy p s
          have hyx : y < x := by omega
          have hyn : y < n := by omega
          rw [rowP_step hyx, List.cons_append]
          unfold both
          refine Ev.step (f := fun k => (spec_cfCommon.f k (tabB n f) (x : Int) (y : Int)).bind fun t165 => if f x y = true then (if p ≥ 0 then (if p = (t165.length : Int) then (spec_StrongNumbers.l1 k (tabB n f) (t165.length : Int) s (x : Int) ((y + 1 : Nat) : Int) (n : Int) (x : Int) (n : Int) l) else (some (([] : List Int), false))) else (spec_StrongNumbers.l1 k (tabB n f) (t165.length : Int) s (x : Int) ((y + 1 : Nat) : Int) (n : Int) (x : Int) (n : Int) l)) else (if s ≥ 0 then (if s = (t165.length : Int) then (spec_StrongNumbers.l1 k (tabB n f) p (t165.length : Int) (x : Int) ((y + 1 : Nat) : Int) (n : Int) (x : Int) (n : Int) l) else (some (([] : List Int), false))) else (spec_StrongNumbers.l1 k (tabB n f) p (t165.length : Int) (x : Int) ((y + 1 : Nat) : Int) (n : Int) (x : Int) (n : Int) l))) (fun k => ?_) ?_
          · simp only [spec_StrongNumbers.l1]
            rw [if_pos (by omega)]
            congr 1
            funext t
            rw [if_pos (by omega), if_pos (by rw [hT]; omega), if_pos (by omega), if_pos (by rw [lx]; omega), vx y hyn, succ_cast hyx (by omega)]
          · refine Ev.bind (cfCommon_ev hn f hxn hyn) ?_
            rw [comL_length]
            refine ev_if (fun c => ?_) (fun c => ?_)
            · simp only [if_pos c]
              refine ev_if (fun c2 => ?_) (fun c2 => ?_)
              · simp only [if_pos (show 0 ≤ p from c2)]
                refine ev_if (fun c3 => ?_) (fun c3 => ?_)
                · simp only [if_pos c3]; exact ih2 (y + 1) (by omega) (by omega) _ s
                · simp only [if_neg c3]; exact Ev.now _
              · simp only [if_neg (show ¬ 0 ≤ p from c2)]; exact ih2 (y + 1) (by omega) (by omega) _ s
            · simp only [if_neg c]
              refine ev_if (fun c2 => ?_) (fun c2 => ?_)
              · simp only [if_pos (show 0 ≤ s from c2)]
                refine ev_if (fun c3 => ?_) (fun c3 => ?_)
                · simp only [if_pos c3]; exact ih2 (y + 1) (by omega) (by omega) p _
                · simp only [if_neg c3]; exact Ev.now _
              · simp only [if_neg (show ¬ 0 ≤ s from c2)]; exact ih2 (y + 1) (by omega) (by omega) p _
      refine Ev.step (f := fun k => spec_StrongNumbers.l1 k (tabB n f) p s (x : Int) ((0 : Nat) : Int) (n : Int) (x : Int) (n : Int) l) (fun k => by simp only [spec_StrongNumbers.l0]; rw [if_pos (by omega)]; rfl) ?_
      exact q2 x 0 (by omega) (by omega) p s
  exact q n 0 (by omega) (by omega) (-1) (-1)

/-- What both sides tell. -/
def tell (n : Int) (l : List Pr) : List Int × Bool := if party n l = true ∧ 0 < n ∧ same (numsF n.toNat (adj l)) = true then fin n (rd (numsF n.toNat (adj l)) 0) (both (com (adj l) n.toNat) (adj l) (restP n.toNat 0) (-1) (-1)) else ([], false)
theorem tell_len (n : Int) (l : List Pr) : (tell n l).1.length ≤ 4 := by
  unfold tell
  by_cases c : party n l = true ∧ 0 < n ∧ same (numsF n.toNat (adj l)) = true
  · rw [if_pos c]
    generalize both (com (adj l) n.toNat) (adj l) (restP n.toNat 0) (-1) (-1) = z
    cases z with
    | none => simp [fin]
    | some z =>
      obtain ⟨p, s⟩ := z
      unfold fin
      by_cases c1 : p < 0
      · simp [if_pos c1]
      · by_cases c2 : s < 0
        · simp [if_pos c2]
        · simp [if_neg c1, if_neg c2]
  · rw [if_neg c]; simp

theorem spec_ev (n : Int) (l : List Pr) (h : l.length ≤ 9223372036854775807) : Ev (fun k => spec_StrongNumbers.f k n l) (tell n l) := by
  unfold spec_StrongNumbers.f tell
  refine Ev.bind (paGood_ev n l h) ?_
  refine ev_if (fun b => ?_) (fun b => ?_)
  · obtain ⟨m, rfl, hm, hr, hs⟩ := party_right b
    have hc := cf_ev hm hr hs h
    rw [Int.toNat_natCast]
    refine Ev.bind hc ?_
    by_cases c : 0 < m ∧ same (numsF m (adj l)) = true
    · rw [if_pos c] at hc ⊢
      rw [if_pos ⟨b, by omega, c.2⟩]
      have hp := nums_pos (adj l) c.1
      rw [decide_eq_false (by omega)]
      refine Ev.step (f := fun k => (spec_paTable.f k (m : Int) l).bind fun t158 => (spec_StrongNumbers.l0 k t158 (-1) (-1) (t158.length : Int) 0 (m : Int) l)) (fun k => by simp only [spec_StrongNumbers.j0]; rw [if_neg (by simp)]) ?_
      refine Ev.bind (paTable_ev hm hr h) ?_
      rw [tabB_length]
      exact pass_ev hm (adj l) _ hc
    · rw [if_neg c]
      rw [if_neg (fun q => c ⟨by omega, q.2.2⟩)]
      refine Ev.step (f := fun _ => some ([], false)) (fun k => by simp only [spec_StrongNumbers.j0]; rw [if_pos (by decide)]) (Ev.now _)
  · rw [if_neg (fun q => b q.1)]
    exact Ev.step (f := fun _ => some ([], false)) (fun k => by simp only [spec_StrongNumbers.j0]; rw [if_pos trivial]) (Ev.now _)

theorem impl_ev (n : Int) (l : List Pr) (h : l.length ≤ 9223372036854775807) : Ev (fun k => impl_StrongNumbers.f k n l) (tell n l) := by
  unfold impl_StrongNumbers.f
  refine Ev.bind (equal_impl_ev n l h) ?_
  unfold tellE tell
  by_cases c : party n l = true ∧ 0 < n ∧ same (numsF n.toNat (adj l)) = true
  · rw [if_pos c, if_pos c]
    obtain ⟨m, rfl, hm, hr, hs⟩ := party_right c.1
    rw [Int.toNat_natCast]
    refine ev_if (fun _ => ?_) (fun q => absurd rfl q)
    refine Ev.bind (table_ev hm hr h) ?_
    refine Ev.bind (sweep_ev hm (adj l) (adj l) true) ?_
    refine Ev.bind (others_ev hm (adj l)) ?_
    refine Ev.bind (sweep_ev hm (adj l) (notF (adj l)) _) ?_
    rw [both_run (com (adj l) m) (adj l) (notF (adj l)) _ _ _ (fun a ha => by
      have := (restP_mem ha).2
      unfold notF
      rw [decide_eq_true (by omega), Bool.true_and])]
    rw [run_ok (com (adj l) m) (notF (adj l)) _ _ (run (com (adj l) m) (adj l) (restP m 0) (-1) true).2]
    generalize run (com (adj l) m) (adj l) (restP m 0) (-1) true = z1
    generalize run (com (adj l) m) (notF (adj l)) (restP m 0) (-1) true = z2
    obtain ⟨p, b1⟩ := z1
    obtain ⟨s, b2⟩ := z2
    cases b1 <;> cases b2
    · refine ev_if (fun q => absurd q (by simp)) (fun _ => ?_); simpa [fin] using Ev.now _
    · refine ev_if (fun q => absurd q (by simp)) (fun _ => ?_); simpa [fin] using Ev.now _
    · refine ev_if (fun q => absurd q (by simp)) (fun _ => ?_); simpa [fin] using Ev.now _
    · refine ev_if (fun _ => ?_) (fun q => absurd rfl q)
      rw [show (if (p, true).2 = true ∧ (s, true).2 = true then some ((p, true).1, (s, true).1) else none) = some (p, s) from if_pos ⟨rfl, rfl⟩]
      unfold fin
      refine ev_if (fun c => by simp only [if_pos c]; exact Ev.now _) (fun c => ?_)
      simp only [if_neg c]
      refine ev_if (fun c => by simp only [if_pos c]; exact Ev.now _) (fun c => ?_)
      simp only [if_neg c]
      exact Ev.now _
  · rw [if_neg c, if_neg c]
    refine ev_if (fun q => absurd q (by simp)) (fun _ => Ev.now _)

theorem FnExactStrongNumbers : laws_FnExactStrongNumbers.Pure := by
  intro n l _ hl _
  refine Ev.rounds (g := fun k => laws_FnExactStrongNumbers.f k n l) ?_
  unfold laws_FnExactStrongNumbers.f
  refine ev_bind0 (szParty_eq n l 1048576 (by omega) (by omega) hl) ?_
  refine ev_if (fun _ => Ev.now _) (fun hb => ?_)
  have hs : l.length ≤ 1048576 := by
    by_cases h : (1048576 : Int) < (l.length : Int)
    · rw [if_pos h] at hb; omega
    · omega
  have hTl := toParty_ev n l (by omega)
  have hl2 : (l.map toP).length ≤ 1048576 := by rw [List.length_map]; exact hs
  have hS := spec_ev n (l.map toP) (by omega)
  have hI := impl_ev n (l.map toP) (by omega)
  have hp := tell_len n (l.map toP)
  generalize tell n (l.map toP) = z at hS hI hp
  obtain ⟨ps, ok1⟩ := z
  replace hp : ps.length ≤ 12 := Nat.le_trans hp (by omega)
  refine Ev.bind hTl ?_
  refine Ev.bind hS ?_
  refine Ev.bind hTl ?_
  refine Ev.bind hI ?_
  refine Ev.bind (eqIntS_ev ps (by omega)) ?_
  refine ev_if (fun _ => ?_) (fun h => absurd rfl h)
  show Ev (fun k => laws_FnExactStrongNumbers.j0 k ps ok1 ps ok1 (ok1 != ok1) n l n (l.map toP)) true
  rw [show (ok1 != ok1) = false by simp]
  refine Ev.step (f := fun k => (laws_toParty.f k n l).bind fun bt458 => ((laws_eqParty.f k n (l.map toP) bt458.1 bt458.2).bind fun t462 => (if t462 = true then ((laws_markParty.f k n (l.map toP) 1).bind fun bt463 => (if bt463.1 < 0 then (laws_FnExactStrongNumbers.j1 k ps ok1 ps true n l) else ((laws_eqIntS.f k ps ps).bind fun t465 => (if t465 = true then (laws_FnExactStrongNumbers.j1 k ps ok1 ps (ok1 != ok1) n l) else (laws_FnExactStrongNumbers.j1 k ps ok1 ps true n l))))) else (some false)))) (fun k => by simp only [laws_FnExactStrongNumbers.j0]; rfl) ?_
  refine Ev.bind hTl ?_
  refine Ev.bind (eqParty_ev n (l.map toP) (by simp only [List.length_map]; omega)) ?_
  refine ev_if (fun _ => ?_) (fun h => absurd rfl h)
  refine Ev.bind (markParty_ev n (l.map toP) (by simp only [List.length_map]; omega)) ?_
  refine ev_if (fun (q : (1 + 2 * ((l.map toP).length : Int)) < 0) => by omega) (fun _ => ?_)
  refine Ev.bind (eqIntS_ev ps (by omega)) ?_
  refine ev_if (fun _ => ?_) (fun h => absurd rfl h)
  show Ev (fun k => laws_FnExactStrongNumbers.j1 k ps ok1 ps (ok1 != ok1) n l) true
  rw [show (ok1 != ok1) = false by simp]
  refine Ev.step (f := fun k => (laws_markIntS.f k ps 1).bind fun bt466 => ((laws_heldIntS.f k bt466.2 1).bind fun t468 => (if t468 < 0 then (some false) else (if t468 = bt466.1 then ((laws_toParty.f k n l).bind fun bt469 => ((impl_StrongNumbers.f k bt469.1 bt469.2).bind fun bt473 => ((laws_eqIntS.f k bt473.1 ps).bind fun t477 => (if t477 = true then (laws_FnExactStrongNumbers.j2 k bt466.2 bt466.1 (bt473.2 != ok1)) else (laws_FnExactStrongNumbers.j2 k bt466.2 bt466.1 true))))) else (some false))))) (fun k => by simp only [laws_FnExactStrongNumbers.j1]; rfl) ?_
  refine Ev.bind (markIntS_ev ps 1 (by omega) (by omega) (by omega)) ?_
  refine Ev.bind (heldIntS_ev _ 1 (by omega) (by omega) (by omega)) ?_
  refine ev_if (fun (q : (1 + ((ps.length : Nat) : Int)) < 0) => by omega) (fun _ => ?_)
  refine ev_if (fun _ => ?_) (fun h => absurd rfl h)
  refine Ev.bind hTl ?_
  refine Ev.bind hI ?_
  refine Ev.bind (eqIntS_ev ps (by omega)) ?_
  refine ev_if (fun _ => ?_) (fun h => absurd rfl h)
  show Ev (fun k => laws_FnExactStrongNumbers.j2 k (marksI 1 ps.length) (1 + (ps.length : Int)) (ok1 != ok1)) true
  rw [show (ok1 != ok1) = false by simp]
  refine Ev.step (f := fun k => (laws_heldIntS.f k (marksI 1 ps.length) 1).bind fun t478 => (if t478 < 0 then (some false) else (if t478 = (1 + (ps.length : Int)) then (some true) else (some false)))) (fun k => by simp only [laws_FnExactStrongNumbers.j2]; rfl) ?_
  refine Ev.bind (heldIntS_ev _ 1 (by omega) (by omega) (by omega)) ?_
  refine ev_if (fun (q : (1 + ((ps.length : Nat) : Int)) < 0) => by omega) (fun _ => ?_)
  refine ev_if (fun _ => ?_) (fun h => absurd rfl h)
  exact Ev.now _
end Go.Proofs.Ytagdkekkbdonfaa.Pure
