import Derived.Test.YtlacnnnmeolomaaQ0
import Derived.Test.YtlacnnnmeolomaaQ1
import Derived.Test.YtlacnnnmeolomaaQ5
import Derived.Test.YtlacnnnmeolomaaQ7
import Derived.Test.YtlacnnnmeolomaaQ12
import Derived.Test.YtlacnnnmeolomaaQ14
import Derived.Test.YtlacnnnmeolomaaQ20
import Derived.Test.YtlacnnnmeolomaaQ31
import Derived.Test.YtlacnnnmeolomaaQ35
import Derived.Test.YtlacnnnmeolomaaQ38
import Derived.Test.YtlacnnnmeolomaaQ40
import Derived.Test.YtlacnnnmeolomaaQ46
import Derived.Test.YtlacnnnmeolomaaQ52
import Derived.Test.YtlacnnnmeolomaaQ53
import Derived.Test.YtlacnnnmeolomaaQ54
import Derived.Test.YtlacnnnmeolomaaQ56
import Derived.Test.YtlacnnnmeolomaaQ57
import Derived.Test.YtlacnnnmeolomaaQ60
import Derived.Test.YtlacnnnmeolomaaQ61
import Derived.Test.YtlacnnnmeolomaaQ62
import Derived.Test.YtlacnnnmeolomaaQ63
import Derived.Test.YtlacnnnmeolomaaSayFnExactToldNumbers
/- Plain lemmas over rounds, lists and whole numbers, for the pure statements of this seat. No condition. -/
namespace Go.Proofs.Ytlacnnnmeolomaa.Plain
open Go.RowKit Go.Proofs.YtlacnnnmeolomaaW.PrintWords Go.Proofs.YtlacnnnmeolomaaW.PrintLast
set_option linter.unusedVariables false

theorem wrap_id {x : Int} (h0 : -9223372036854775808 ≤ x) (h1 : x ≤ 9223372036854775807) : wrap64 x = x := by
  unfold wrap64
  omega

theorem rd_at {l : List Int} {i : Nat} (h : i < l.length) : rd l (i : Int) = l[i] := by
  simp [rd, List.getD, h]

theorem ev_some {α : Type} {g : Nat → Option α} {r : α} (h : ∀ k, g k = some r) : Ev g r := ⟨0, fun k _ => h k⟩

theorem ev_bind0 {α β : Type} {g : Option α} {f : Nat → α → Option β} {a : α} {r : β} (h : g = some a) (k : Ev (fun n => f n a) r) : Ev (fun n => g.bind (f n)) r := by
  obtain ⟨K, hK⟩ := k
  refine ⟨K, fun n hn => ?_⟩
  show g.bind (f n) = some r
  rw [h]
  exact hK n hn

theorem ev_if {α : Type} {c : Prop} [Decidable c] {f g : Nat → Option α} {r : α} (hf : c → Ev f r) (hg : ¬ c → Ev g r) : Ev (fun n => if c then f n else g n) r := by
  by_cases h : c
  · obtain ⟨K, hK⟩ := hf h
    exact ⟨K, fun n hn => (if_pos h).trans (hK n hn)⟩
  · obtain ⟨K, hK⟩ := hg h
    exact ⟨K, fun n hn => (if_neg h).trans (hK n hn)⟩

/-- A loop over an index, from any index on, in one shape. -/
theorem ev_up {α : Type} {n : Nat} {loop : Nat → Nat → Option α} {r : Nat → α} (hend : Ev (fun k => loop k n) (r n)) (hstep : ∀ i, i < n → (Ev (fun k => loop k (i + 1)) (r (i + 1)) → Ev (fun k => loop k i) (r i))) :
    ∀ i, i ≤ n → Ev (fun k => loop k i) (r i) := by
  intro i hi
  have : ∀ d i, i ≤ n → n - i = d → Ev (fun k => loop k i) (r i) := by
    intro d
    induction d with
    | zero =>
      intro i hi hd
      have e : i = n := by omega
      rw [e]; exact hend
    | succ d ih =>
      intro i hi hd
      exact hstep i (by omega) (ih (i + 1) (by omega) (by omega))
  exact this (n - i) i hi rfl
theorem all_step (f : Nat → Bool) {m i : Nat} (h : i < m) : ((List.range m).drop i).all f = (f i && ((List.range m).drop (i + 1)).all f) := by
  rw [List.drop_eq_getElem_cons (by simpa using h), List.all_cons, List.getElem_range]
theorem all_end (f : Nat → Bool) {m i : Nat} (h : m ≤ i) : ((List.range m).drop i).all f = true := by
  rw [List.drop_of_length_le (by simpa using h)]; rfl
theorem succ_cast {i n : Nat} (h : i < n) (hn : n ≤ 9223372036854775807) : wrap64 ((i : Int) + 1) = ((i + 1 : Nat) : Int) := by
  rw [wrap_id (by omega) (by omega)]; rfl
theorem pred_cast {i : Nat} (h : 1 ≤ i) (hn : i ≤ 9223372036854775807) : wrap64 ((i : Int) - 1) = ((i - 1 : Nat) : Int) := by
  rw [wrap_id (by omega) (by omega)]; omega
end Go.Proofs.Ytlacnnnmeolomaa.Plain

/- The law's own functions over lists of whole numbers: copies, equality, bounds. No condition but lengths that fit. -/
namespace Go.Proofs.Ytlacnnnmeolomaa.Plain
open Go.RowKit Go.Proofs.YtlacnnnmeolomaaW.PrintWords Go.Proofs.YtlacnnnmeolomaaW.PrintLast
set_option linter.unusedVariables false
open Q

theorem eqIntS_ev (l : List Int) (h : l.length ≤ 9223372036854775807) : Ev (fun k => laws_eqIntS.f k l l) true := by
  refine Ev.congr (f := fun k => laws_eqIntS.l0 k l l 0) (fun k => ?_) ?_
  · unfold laws_eqIntS.f
    rw [if_pos rfl]
  · exact ev_up (n := l.length) (loop := fun k i => laws_eqIntS.l0 k l l (i : Int)) (r := fun _ => true)
      (Ev.step (f := fun _ => some true) (fun k => by simp [laws_eqIntS.l0]) (Ev.now true))
      (fun i hi ih => Ev.step (f := fun k => laws_eqIntS.l0 k l l ((i + 1 : Nat) : Int)) (fun k => by
        simp only [laws_eqIntS.l0]
        rw [if_pos (by omega), if_pos (by omega), if_pos (by omega), if_pos trivial, succ_cast hi h]) ih) 0 (Nat.zero_le _)

theorem l1In_eq (a b c : Int) : spec_l1In.f a b c = some (decide (b ≤ a) && decide (a ≤ c)) := by
  unfold spec_l1In.f
  by_cases h : b ≤ a <;> simp [h]

theorem within_eq (a b c : Int) : impl_within.f a b c = some (decide (b ≤ a) && decide (a ≤ c)) := by
  unfold impl_within.f
  by_cases h : b ≤ a <;> simp [h]

end Go.Proofs.Ytlacnnnmeolomaa.Plain

/- Is a number in a list: the reference's way. No condition but a length that fits. -/
namespace Go.Proofs.Ytlacnnnmeolomaa.Plain
open Go.RowKit Go.Proofs.YtlacnnnmeolomaaW.PrintWords Go.Proofs.YtlacnnnmeolomaaW.PrintLast
set_option linter.unusedVariables false
open Q

theorem l1Has_ev (l : List Int) (a : Int) (h : l.length ≤ 9223372036854775807) : Ev (fun k => spec_l1Has.f k l a) (l.contains a) := by
  have q := ev_up (n := l.length) (loop := fun k i => spec_l1Has.l0 k a l (l.length : Int) (i : Int)) (r := fun i => (l.drop i).contains a)
    (Ev.step (f := fun _ => some false) (fun k => by simp [spec_l1Has.l0]) (by simpa using Ev.now false))
    (fun i hi ih => by
      rw [List.drop_eq_getElem_cons hi, List.contains_cons]
      by_cases e : l[i] = a
      · refine Ev.step (f := fun _ => some true) (fun k => ?_) (by rw [e]; simpa using Ev.now true)
        simp only [spec_l1Has.l0]
        rw [if_pos (by omega), if_pos (by omega), if_pos (by omega), rd_at hi, if_pos e]
      · refine Ev.step (f := fun k => spec_l1Has.l0 k a l (l.length : Int) ((i + 1 : Nat) : Int)) (fun k => ?_) ?_
        · simp only [spec_l1Has.l0]
          rw [if_pos (by omega), if_pos (by omega), if_pos (by omega), rd_at hi, if_neg e, succ_cast hi h]
        · have : (a == l[i]) = false := by simpa using fun q => e q.symm
          rw [this, Bool.false_or]; exact ih) 0 (Nat.zero_le _)
  simpa [spec_l1Has.f] using q
end Go.Proofs.Ytlacnnnmeolomaa.Plain

/- Lists that hold each number less than n once: both sides' tests tell the same. No condition. -/
namespace Go.Proofs.Ytlacnnnmeolomaa.Plain
open Go.RowKit Go.Proofs.YtlacnnnmeolomaaW.PrintWords Go.Proofs.YtlacnnnmeolomaaW.PrintLast
set_option linter.unusedVariables false
open Q

/-- No number twice. -/
def nodupB (l : List Int) : Bool := (List.range l.length).all fun i => !(l.take i).contains (rd l (i : Int))
theorem nodupB_iff {l : List Int} : nodupB l = true ↔ l.Nodup := by
  rw [List.nodup_iff_pairwise_ne, List.pairwise_iff_getElem]
  unfold nodupB
  simp only [List.all_eq_true, List.mem_range, Bool.not_eq_true', List.contains_eq_mem, decide_eq_false_iff_not]
  constructor
  · intro h i j hi hj hij e
    refine h j hj ?_
    rw [rd_at hj, List.mem_take_iff_getElem]
    exact ⟨i, by omega, e⟩
  · intro h j hj hm
    rw [rd_at hj, List.mem_take_iff_getElem] at hm
    obtain ⟨i, hi, e⟩ := hm
    exact h i j (by omega) hj (by omega) e

abbrev sortI (l : List Int) : List Int := l.mergeSort fun x y => decide (x ≤ y)
theorem sortI_perm (l : List Int) : (sortI l).Perm l := List.mergeSort_perm _ _
theorem sortI_length (l : List Int) : (sortI l).length = l.length := (sortI_perm l).length_eq
theorem sortI_pairwise (l : List Int) : (sortI l).Pairwise (fun a b => a ≤ b) := by
  have := List.pairwise_mergeSort (le := fun x y : Int => decide (x ≤ y)) (fun a b c h1 h2 => by simp only [decide_eq_true_eq] at *; omega) (fun a b => by simp only [Bool.or_eq_true, decide_eq_true_eq]; omega) l
  exact this.imp (fun h => by simpa using h)
end Go.Proofs.Ytlacnnnmeolomaa.Plain

/- Parties: both sides' tests, and the law's own functions over parties. No condition but lengths that fit. -/
namespace Go.Proofs.Ytlacnnnmeolomaa.Plain
open Go.RowKit Go.Proofs.YtlacnnnmeolomaaW.PrintWords Go.Proofs.YtlacnnnmeolomaaW.PrintLast
set_option linter.unusedVariables false
open Q

abbrev Pr := S91
abbrev rdP (l : List Pr) (i : Int) : Pr := rd_T91 l i

theorem rdP_at {l : List Pr} {i : Nat} (h : i < l.length) : rd_T91 l (i : Int) = l[i] := by
  simp [rd_T91, List.getD, h]

def pairOk (n : Int) (x : Pr) : Bool := decide (0 ≤ x.f0) && (decide (x.f0 < x.f1) && decide (x.f1 < n))
def lessB (x y : Pr) : Bool := decide (x.f0 < y.f0) || (decide (x.f0 = y.f0) && decide (x.f1 < y.f1))
/-- The pair at an index is right, and comes behind the one before. -/
def okAt (n : Int) (l : List Pr) (i : Nat) : Bool := pairOk n (rdP l i) && (decide (i = 0) || lessB (rdP l ((i : Int) - 1)) (rdP l i))
def party (n : Int) (l : List Pr) : Bool := (decide (0 ≤ n) && decide (n ≤ 12)) && (List.range l.length).all (okAt n l)

theorem paLess_eq (x y : Pr) : spec_paLess.f x.f0 x.f1 y.f0 y.f1 = some (lessB x y) := by
  unfold spec_paLess.f lessB
  by_cases h : x.f0 < y.f0
  · rw [if_pos h, decide_eq_true h]; rfl
  · rw [if_neg h, decide_eq_false h]
    by_cases h2 : x.f0 = y.f0
    · rw [if_pos h2, decide_eq_true h2]; simp
    · rw [if_neg h2, decide_eq_false h2]; simp

/-- Compared as the library compares whole numbers. -/
def cmpI (a b : Int) : Int := if a < b then -1 else if a > b then 1 else 0
theorem compare_eq (a b : Int) : cmp_Compare_int.f a b = some (cmpI a b) := by
  unfold cmp_Compare_int.f cmp_isNaN_int.f cmpI
  simp
  by_cases h : a < b
  · simp [h]
  · by_cases h2 : b < a <;> simp [h, h2]

theorem or_two (a b : Int) : Ev (fun k => cmp_Or_int.f k [a, b]) (if a = 0 then b else a) := by
  refine Ev.of (fun k => cmp_Or_int.mono [a, b] k) (k := 3) ?_
  by_cases h : a = 0
  · by_cases h2 : b = 0
    · simp [cmp_Or_int.f, cmp_Or_int.l0, rd, h, h2, wrap64]
    · simp [cmp_Or_int.f, cmp_Or_int.l0, rd, h, h2, wrap64]
  · simp [cmp_Or_int.f, cmp_Or_int.l0, rd, h]

theorem comparePairs_ev (x y : Pr) : Ev (fun k => impl_comparePairs.f k x.f0 x.f1 y.f0 y.f1) (if cmpI x.f0 y.f0 = 0 then cmpI x.f1 y.f1 else cmpI x.f0 y.f0) := by
  unfold impl_comparePairs.f
  refine ev_bind0 (compare_eq _ _) ?_
  refine ev_bind0 (compare_eq _ _) ?_
  exact Ev.bind (f := fun _ t => some t) (or_two _ _) (Ev.now _)

theorem compare_less (x y : Pr) : ((if cmpI x.f0 y.f0 = 0 then cmpI x.f1 y.f1 else cmpI x.f0 y.f0) ≥ 0) ↔ lessB x y = false := by
  unfold cmpI lessB
  by_cases h1 : x.f0 < y.f0
  · simp [h1]
  · by_cases h2 : y.f0 < x.f0
    · have : ¬ x.f0 = y.f0 := by omega
      simp [h1, h2, this]
    · have e : x.f0 = y.f0 := by omega
      by_cases h3 : x.f1 < y.f1
      · simp [e, h3]
      · by_cases h4 : y.f1 < x.f1 <;> simp [e, h3, h4]

theorem areCrowd_eq (n : Int) : impl_areCrowd.f n = some (decide (0 ≤ n) && decide (n ≤ 12)) := by
  unfold impl_areCrowd.f
  rw [within_eq]; rfl

theorem isParty_ev (n : Int) (l : List Pr) (h : l.length ≤ 9223372036854775807) : Ev (fun k => impl_IsParty.f k n l) (party n l) := by
  have q := ev_up (n := l.length) (loop := fun k i => impl_IsParty.l0 k l (l.length : Int) (i : Int) n l) (r := fun i => (decide (0 ≤ n) && decide (n ≤ 12)) && ((List.range l.length).drop i).all (okAt n l))
    (Ev.step (f := fun _ => some (decide (0 ≤ n) && decide (n ≤ 12))) (fun k => by
        simp only [impl_IsParty.l0]
        rw [if_neg (by omega), areCrowd_eq]; rfl) (by rw [all_end _ (Nat.le_refl _), Bool.and_true]; exact Ev.now _))
    (fun i hi ih => by
      rw [all_step (okAt n l) hi]
      have e0 : okAt n l i = (pairOk n l[i] && (decide (i = 0) || lessB (rdP l ((i : Int) - 1)) l[i])) := by
        unfold okAt rdP; rw [rdP_at hi]
      by_cases a1 : l[i].f0 < 0
      · have e : okAt n l i = false := by rw [e0]; simp [pairOk]; omega
        rw [e]
        refine Ev.step (f := fun _ => some false) (fun k => ?_) (by simpa using Ev.now false)
        simp only [impl_IsParty.l0]
        rw [if_pos (by omega), if_pos (by omega), if_pos (by omega), rdP_at hi, if_pos a1]
      by_cases a2 : l[i].f0 ≥ l[i].f1
      · have e : okAt n l i = false := by rw [e0]; simp [pairOk]; omega
        rw [e]
        refine Ev.step (f := fun _ => some false) (fun k => ?_) (by simpa using Ev.now false)
        simp only [impl_IsParty.l0]
        rw [if_pos (by omega), if_pos (by omega), if_pos (by omega), rdP_at hi, if_neg a1, if_pos a2]
      by_cases a3 : l[i].f1 ≥ n
      · have e : okAt n l i = false := by rw [e0]; simp [pairOk]; omega
        rw [e]
        refine Ev.step (f := fun _ => some false) (fun k => ?_) (by simpa using Ev.now false)
        simp only [impl_IsParty.l0]
        rw [if_pos (by omega), if_pos (by omega), if_pos (by omega), rdP_at hi, if_neg a1, if_neg a2, if_pos a3]
      have ep : pairOk n l[i] = true := by simp [pairOk]; omega
      by_cases a4 : i = 0
      · have e : okAt n l i = true := by rw [e0, ep, decide_eq_true a4]; simp
        rw [e]
        refine Ev.step (f := fun k => impl_IsParty.l0 k l (l.length : Int) ((i + 1 : Nat) : Int) n l) (fun k => ?_) (by simpa using ih)
        simp only [impl_IsParty.l0]
        rw [if_pos (by omega), if_pos (by omega), if_pos (by omega), rdP_at hi, if_neg a1, if_neg a2, if_neg a3, if_neg (by omega), succ_cast hi h]
      · have ew : wrap64 ((i : Int) - 1) = ((i - 1 : Nat) : Int) := by rw [wrap_id (by omega) (by omega)]; omega
        have ew2 : ((i : Int) - 1) = ((i - 1 : Nat) : Int) := by omega
        have e : okAt n l i = lessB l[i-1] l[i] := by
          rw [e0, ep, decide_eq_false a4, ew2]
          unfold rdP
          rw [rdP_at (by omega)]; simp
        rw [e]
        refine Ev.step (f := fun k => (impl_comparePairs.f k l[i-1].f0 l[i-1].f1 l[i].f0 l[i].f1).bind fun t => if t ≥ 0 then some false else impl_IsParty.l0 k l (l.length : Int) ((i + 1 : Nat) : Int) n l) (fun k => ?_) ?_
        · simp only [impl_IsParty.l0]
          rw [if_pos (by omega), if_pos (by omega), if_pos (by omega), rdP_at hi, if_neg a1, if_neg a2, if_neg a3, if_pos (by omega), if_pos (by omega), if_pos (by omega), ew, rdP_at (by omega : i - 1 < l.length), succ_cast hi h]
        · refine Ev.bind (comparePairs_ev _ _) ?_
          refine ev_if (fun b => ?_) (fun b => ?_)
          · rw [(compare_less _ _).mp b]; simpa using Ev.now false
          · have : lessB l[i-1] l[i] = true := by
              cases hb : lessB l[i-1] l[i] with
              | true => rfl
              | false => exact absurd ((compare_less _ _).mpr hb) b
            rw [this]; simpa using ih) 0 (Nat.zero_le _)
  simpa [impl_IsParty.f, party] using q

/-! What a party is, in words of numbers. -/
theorem party_of {n : Int} {l : List Pr} (h : party n l = true) : 0 ≤ n ∧ n ≤ 12 ∧ (∀ i, (hi : i < l.length) → 0 ≤ l[i].f0 ∧ l[i].f0 < l[i].f1 ∧ l[i].f1 < n) ∧ (∀ i, (hi : i + 1 < l.length) → lessB l[i] l[i+1] = true) := by
  unfold party at h
  simp only [Bool.and_eq_true, decide_eq_true_eq, List.all_eq_true, List.mem_range] at h
  obtain ⟨⟨h1, h2⟩, h3⟩ := h
  refine ⟨h1, h2, fun i hi => ?_, fun i hi => ?_⟩
  · have q := h3 i hi
    unfold okAt rdP at q
    rw [rdP_at hi] at q
    simp only [Bool.and_eq_true, pairOk, decide_eq_true_eq] at q
    exact q.1
  · have q := h3 (i + 1) hi
    unfold okAt rdP at q
    rw [show (((i + 1 : Nat) : Int) - 1) = ((i : Nat) : Int) by omega, rdP_at hi, rdP_at (by omega : i < l.length)] at q
    simpa using (Bool.and_eq_true _ _ ▸ q).2
end Go.Proofs.Ytlacnnnmeolomaa.Plain

/- A party as a relation between people; sets of people as numbers; how many hold. Plain lemmas. No condition. -/
namespace Go.Proofs.Ytlacnnnmeolomaa.Plain
open Go.RowKit Go.Proofs.YtlacnnnmeolomaaW.PrintWords Go.Proofs.YtlacnnnmeolomaaW.PrintLast
set_option linter.unusedVariables false
open Q

/-- Are two people friends. -/
def adj (l : List Pr) (a b : Nat) : Bool := l.any fun x => (decide (x.f0 = (a : Int)) && decide (x.f1 = (b : Int))) || (decide (x.f0 = (b : Int)) && decide (x.f1 = (a : Int)))

theorem adj_comm (l : List Pr) (a b : Nat) : adj l a b = adj l b a := by
  unfold adj
  congr 1
  funext x
  rw [Bool.or_comm]
theorem adj_nil (a b : Nat) : adj [] a b = false := rfl
theorem adj_snoc (l : List Pr) (x : Pr) (a b : Nat) : adj (l ++ [x]) a b = (adj l a b || ((decide (x.f0 = (a : Int)) && decide (x.f1 = (b : Int))) || (decide (x.f0 = (b : Int)) && decide (x.f1 = (a : Int))))) := by
  unfold adj
  rw [List.any_append]
  simp
theorem adj_true {l : List Pr} {a b : Nat} : adj l a b = true ↔ ∃ x ∈ l, (x.f0 = (a : Int) ∧ x.f1 = (b : Int)) ∨ (x.f0 = (b : Int) ∧ x.f1 = (a : Int)) := by
  unfold adj
  rw [List.any_eq_true]
  constructor
  · rintro ⟨x, hx, h⟩
    exact ⟨x, hx, by simpa using h⟩
  · rintro ⟨x, hx, h⟩
    exact ⟨x, hx, by simpa using h⟩

/-- All pairs are right for n people. -/
def Right (n : Nat) (l : List Pr) : Prop := ∀ x ∈ l, 0 ≤ x.f0 ∧ x.f0 < x.f1 ∧ x.f1 < (n : Int)
theorem Right.take {n : Nat} {l : List Pr} (h : Right n l) (i : Nat) : Right n (l.take i) := fun x hx => h x (List.mem_of_mem_take hx)

theorem lessB_trans {x y z : Pr} (h1 : lessB x y = true) (h2 : lessB y z = true) : lessB x z = true := by
  unfold lessB at *
  simp only [Bool.or_eq_true, Bool.and_eq_true, decide_eq_true_eq] at *
  omega
theorem sorted_lt {l : List Pr} (h : ∀ i, (hi : i + 1 < l.length) → lessB l[i] l[i+1] = true) : ∀ d i, (hi : i + 1 + d < l.length) → lessB l[i] l[i + 1 + d] = true := by
  intro d
  induction d with
  | zero => intro i hi; exact h i hi
  | succ d ih =>
    intro i hi
    have q := ih i (by omega)
    have q2 := h (i + 1 + d) (by omega)
    exact lessB_trans q q2

/-- What a right party tells: people from 0 to 12, right pairs, in order. -/
theorem party_right {n : Int} {l : List Pr} (h : party n l = true) : ∃ m : Nat, n = (m : Int) ∧ m ≤ 12 ∧ Right m l ∧ (∀ i j, (hj : j < l.length) → (hij : i < j) → lessB l[i] l[j] = true) := by
  obtain ⟨h1, h2, h3, h4⟩ := party_of h
  refine ⟨n.toNat, by omega, by omega, fun x hx => ?_, fun i j hj hij => ?_⟩
  · obtain ⟨i, hi, rfl⟩ := List.getElem_of_mem hx
    have := h3 i hi
    omega
  · have := sorted_lt h4 (j - i - 1) i (by omega)
    have e : i + 1 + (j - i - 1) = j := by omega
    simpa only [e] using this

/-- A pair is not among those before it. -/
theorem fresh_pair {n : Nat} {l : List Pr} (hr : Right n l) (hs : ∀ i j, (hj : j < l.length) → (hij : i < j) → lessB l[i] l[j] = true) {i : Nat} (hi : i < l.length) : adj (l.take i) l[i].f0.toNat l[i].f1.toNat = false := by
  cases h : adj (l.take i) l[i].f0.toNat l[i].f1.toNat with
  | false => rfl
  | true =>
    exfalso
    obtain ⟨x, hx, h⟩ := adj_true.mp h
    obtain ⟨j, hj, rfl⟩ := List.getElem_of_mem hx
    rw [List.length_take] at hj
    have hji : j < i := by omega
    have r1 := hr _ (List.getElem_mem hi)
    have r2 := hr l[j] (List.getElem_mem (by omega))
    have s := hs j i hi hji
    rw [List.getElem_take] at h
    unfold lessB at s
    simp only [Bool.or_eq_true, Bool.and_eq_true, decide_eq_true_eq] at s
    rcases h with ⟨h1, h2⟩ | ⟨h1, h2⟩ <;> omega

/-! Sets of people as numbers. -/
def maskOf (f : Nat → Bool) : Nat → Nat
  | 0 => 0
  | n + 1 => maskOf f n + (if f n = true then 2 ^ n else 0)

theorem maskOf_lt (f : Nat → Bool) : ∀ n, maskOf f n < 2 ^ n
  | 0 => by simp [maskOf]
  | n + 1 => by
    have := maskOf_lt f n
    unfold maskOf
    rw [Nat.pow_succ]
    split <;> omega

theorem maskOf_bit (f : Nat → Bool) : ∀ n b, (maskOf f n).testBit b = (decide (b < n) && f b)
  | 0, b => by simp [maskOf]
  | n + 1, b => by
    have ih := maskOf_bit f n b
    have hlt := maskOf_lt f n
    unfold maskOf
    by_cases h : f n = true
    · rw [if_pos h, Nat.add_comm]
      rcases Nat.lt_trichotomy b n with hb | rfl | hb
      · rw [Nat.testBit_two_pow_add_gt hb, ih]
        simp [hb, Nat.lt_succ_of_lt hb]
      · rw [Nat.testBit_two_pow_add_eq, Nat.testBit_lt_two_pow hlt]
        simp [h]
      · have h1 : 2 ^ (n + 1) ≤ 2 ^ b := Nat.pow_le_pow_right (by omega) (by omega)
        rw [Nat.pow_succ] at h1
        rw [Nat.testBit_lt_two_pow (by omega)]
        simp; omega
    · rw [if_neg h, Nat.add_zero, ih]
      by_cases e : b = n
      · subst e
        simp [Bool.eq_false_iff.mpr h]
      · have : decide (b < n + 1) = decide (b < n) := by
          apply decide_eq_decide.mpr; omega
        rw [this]

theorem maskOf_congr {f g : Nat → Bool} : ∀ {n}, (∀ b, b < n → f b = g b) → maskOf f n = maskOf g n
  | 0, _ => rfl
  | n + 1, h => by
    unfold maskOf
    rw [maskOf_congr (n := n) (fun b hb => h b (by omega)), h n (by omega)]

theorem mask_or (f g : Nat → Bool) (n : Nat) : maskOf f n ||| maskOf g n = maskOf (fun b => f b || g b) n := by
  apply Nat.eq_of_testBit_eq
  intro b
  rw [Nat.testBit_or, maskOf_bit, maskOf_bit, maskOf_bit]
  cases decide (b < n) <;> simp
theorem mask_one {n b : Nat} (h : b < n) : (2 ^ b : Nat) = maskOf (fun c => decide (c = b)) n := by
  apply Nat.eq_of_testBit_eq
  intro c
  rw [Nat.testBit_two_pow, maskOf_bit]
  by_cases e : b = c
  · subst e; simp [h]
  · have : ¬ (c = b) := fun q => e q.symm
    simp [e, this]

/-! How many hold. -/
def cnt (f : Nat → Bool) (n : Nat) : Nat := (List.range n).countP f
theorem cnt_zero (f : Nat → Bool) : cnt f 0 = 0 := rfl
theorem cnt_succ (f : Nat → Bool) (n : Nat) : cnt f (n + 1) = cnt f n + (if f n = true then 1 else 0) := by
  unfold cnt
  rw [List.range_succ, List.countP_append]
  simp [List.countP_cons]
theorem cnt_le (f : Nat → Bool) (n : Nat) : cnt f n ≤ n := by
  unfold cnt
  have := List.countP_le_length (p := f) (l := List.range n)
  simpa using this
theorem cnt_congr {f g : Nat → Bool} {n : Nat} (h : ∀ b, b < n → f b = g b) : cnt f n = cnt g n := by
  unfold cnt
  apply List.countP_congr
  intro x hx
  rw [h x (by simpa using hx)]
theorem cnt_ext (f : Nat → Bool) (n : Nat) : ∀ d, cnt (fun b => decide (b < n) && f b) (n + d) = cnt f n
  | 0 => cnt_congr (fun b hb => by simp [show b < n by omega])
  | d + 1 => by
    rw [show n + (d + 1) = (n + d) + 1 by omega, cnt_succ, cnt_ext f n d]
    have : decide (n + d < n) = false := by simp
    rw [this, Bool.false_and]; simp
theorem cnt_one {f : Nat → Bool} {g : Nat → Bool} {a : Nat} : ∀ {n}, a < n → f a = false → (∀ b, b < n → g b = (f b || decide (b = a))) → cnt g n = cnt f n + 1
  | 0, h, _, _ => by omega
  | n + 1, h, hf, hg => by
    rw [cnt_succ, cnt_succ]
    by_cases e : a = n
    · subst e
      have h1 : cnt g a = cnt f a := cnt_congr (fun b hb => by rw [hg b (by omega)]; simp [show ¬ b = a by omega])
      have h2 := hg a (by omega)
      rw [h1, h2, hf]
      simp
    · have h1 := cnt_one (f := f) (g := g) (n := n) (by omega) hf (fun b hb => hg b (by omega))
      have h2 := hg n (by omega)
      rw [h1, h2]
      have : decide (n = a) = false := by simp; omega
      rw [this, Bool.or_false]
      omega
end Go.Proofs.Ytlacnnnmeolomaa.Plain

/- The program's table of a party: for each person its friends, as the bits of a number. No condition but lengths that fit. -/
namespace Go.Proofs.Ytlacnnnmeolomaa.Plain
open Go.RowKit Go.Proofs.YtlacnnnmeolomaaW.PrintWords Go.Proofs.YtlacnnnmeolomaaW.PrintLast
set_option linter.unusedVariables false
open Q

theorem wraps_u16 (n : Int) (h₀ : 0 ≤ n) (h₁ : n < 2 ^ 16) : IntKind.u16.wrap n = n := by
  have : IntKind.u16.wrap n = n % 65536 := by simp [IntKind.wrap, IntKind.bits, IntKind.signed]
  rw [this]; omega
theorem or16 {a b : Nat} (ha : a < 2 ^ 16) (hb : b < 2 ^ 16) : Go.bits .or .u16 (a : Int) (b : Int) = ((a ||| b : Nat) : Int) := (bits_nat .u16 16 (by decide) wraps_u16 a b ha hb).2
theorem and16 {a b : Nat} (ha : a < 2 ^ 16) (hb : b < 2 ^ 16) : Go.bits .and .u16 (a : Int) (b : Int) = ((a &&& b : Nat) : Int) := (bits_nat .u16 16 (by decide) wraps_u16 a b ha hb).1
theorem shl16 {b : Nat} (hb : b < 16) : shl .u16 1 (b : Int) = ((2 ^ b : Nat) : Int) := by
  unfold shl
  have h1 : min ((b : Int)).toNat IntKind.u16.bits = b := by
    rw [Int.toNat_natCast]
    exact Nat.min_eq_left (by show b ≤ 16; omega)
  rw [h1, Int.one_mul, wraps_u16]
  · simp
  · exact Int.pow_nonneg (by decide)
  · have : (2 : Nat) ^ b < 2 ^ 16 := Nat.pow_lt_pow_right (by omega) hb
    exact_mod_cast this

/-- The table of a relation of n people. -/
def tabF (n : Nat) (f : Nat → Nat → Bool) : List Int := (List.range n).map fun a => ((maskOf (f a) n : Nat) : Int)
theorem tabF_length (n : Nat) (f : Nat → Nat → Bool) : (tabF n f).length = n := by simp [tabF]
theorem tabF_get {n : Nat} {f : Nat → Nat → Bool} {a : Nat} (h : a < n) : rd (tabF n f) (a : Int) = ((maskOf (f a) n : Nat) : Int) := by
  rw [rd_at (by rw [tabF_length]; exact h)]
  simp [tabF]
theorem tabF_congr {n : Nat} {f g : Nat → Nat → Bool} (h : ∀ a b, a < n → b < n → f a b = g a b) : tabF n f = tabF n g := by
  unfold tabF
  apply List.map_congr_left
  intro a ha
  rw [maskOf_congr (fun b hb => h a b (by simpa using ha) hb)]
theorem mask16 {f : Nat → Bool} {n : Nat} (h : n ≤ 16) : maskOf f n < 2 ^ 16 := Nat.lt_of_lt_of_le (maskOf_lt f n) (Nat.pow_le_pow_right (by omega) h)

/-- The relation with two people made friends. -/
def withP (f : Nat → Nat → Bool) (a b : Nat) : Nat → Nat → Bool := fun c d => f c d || ((decide (c = a) && decide (d = b)) || (decide (c = b) && decide (d = a)))

/-- One pair put into the table, as both the loop and 'put' do it. -/
theorem tab_put {n : Nat} (hn : n ≤ 16) (f : Nat → Nat → Bool) {a b : Nat} (ha : a < n) (hb : b < n) (hab : a ≠ b) :
    ((tabF n f).set a (Go.bits .or .u16 (rd (tabF n f) (a : Int)) (shl .u16 1 (b : Int)))).set b
      (Go.bits .or .u16 (rd ((tabF n f).set a (Go.bits .or .u16 (rd (tabF n f) (a : Int)) (shl .u16 1 (b : Int)))) (b : Int)) (shl .u16 1 (a : Int))) = tabF n (withP f a b) := by
  have e1 : Go.bits .or .u16 (rd (tabF n f) (a : Int)) (shl .u16 1 (b : Int)) = ((maskOf (withP f a b a) n : Nat) : Int) := by
    rw [tabF_get ha, shl16 (by omega), or16 (mask16 hn) (Nat.pow_lt_pow_right (by omega) (by omega)), mask_one hb, mask_or]
    congr 1
    apply maskOf_congr
    intro c _
    unfold withP
    simp [hab]
  have e2 : rd ((tabF n f).set a (Go.bits .or .u16 (rd (tabF n f) (a : Int)) (shl .u16 1 (b : Int)))) (b : Int) = ((maskOf (f b) n : Nat) : Int) := by
    rw [rd_at (by rw [List.length_set, tabF_length]; exact hb), List.getElem_set_ne hab]
    simp [tabF]
  have e3 : Go.bits .or .u16 ((maskOf (f b) n : Nat) : Int) (shl .u16 1 (a : Int)) = ((maskOf (withP f a b b) n : Nat) : Int) := by
    rw [shl16 (by omega), or16 (mask16 hn) (Nat.pow_lt_pow_right (by omega) (by omega)), mask_one ha, mask_or]
    congr 1
    apply maskOf_congr
    intro c _
    unfold withP
    simp [show ¬ (b = a) from fun q => hab q.symm]
  rw [e2, e3, e1]
  apply List.ext_getElem
  · simp [tabF_length]
  · intro i h1 h2
    rw [tabF_length] at h2
    rw [List.getElem_set, List.getElem_set]
    by_cases i1 : b = i
    · subst i1
      rw [if_pos rfl]
      simp [tabF]
    · rw [if_neg i1]
      by_cases i2 : a = i
      · subst i2
        rw [if_pos rfl]
        simp [tabF]
      · rw [if_neg i2]
        simp only [tabF, List.getElem_map, List.getElem_range]
        congr 1
        apply maskOf_congr
        intro c _
        unfold withP
        simp [show ¬ (i = a) from fun q => i2 q.symm, show ¬ (i = b) from fun q => i1 q.symm]

theorem table_ev {n : Nat} {l : List Pr} (hn : n ≤ 12) (hr : Right n l) (h : l.length ≤ 9223372036854775807) : Ev (fun k => impl_Party_table.f k (n : Int) l) (tabF n (adj l)) := by
  refine Ev.congr (f := fun k => impl_Party_table.l0 k (List.replicate n 0) l (l.length : Int) 0) (fun k => ?_) ?_
  · unfold impl_Party_table.f
    rw [if_pos (by omega), if_pos (by omega), Int.toNat_natCast]
  · have q := ev_up (n := l.length) (loop := fun k i => impl_Party_table.l0 k (tabF n (adj (l.take i))) l (l.length : Int) (i : Int)) (r := fun _ => tabF n (adj l))
      (Ev.step (f := fun _ => some (tabF n (adj l))) (fun k => by simp [impl_Party_table.l0]) (Ev.now _))
      (fun i hi ih => by
        have r := hr _ (List.getElem_mem hi)
        have ea : ((l[i].f0.toNat : Nat) : Int) = l[i].f0 := by omega
        have eb : ((l[i].f1.toNat : Nat) : Int) = l[i].f1 := by omega
        have hput := tab_put (n := n) (by omega) (adj (l.take i)) (a := l[i].f0.toNat) (b := l[i].f1.toNat) (by omega) (by omega) (by omega)
        rw [ea, eb] at hput
        have hnext : tabF n (withP (adj (l.take i)) l[i].f0.toNat l[i].f1.toNat) = tabF n (adj (l.take (i + 1))) := by
          apply tabF_congr
          intro c d _ _
          rw [List.take_succ_eq_append_getElem hi, adj_snoc]
          unfold withP
          congr 1
          have k1 : decide (c = l[i].f0.toNat) = decide (l[i].f0 = (c : Int)) := by apply decide_eq_decide.mpr; omega
          have k2 : decide (d = l[i].f1.toNat) = decide (l[i].f1 = (d : Int)) := by apply decide_eq_decide.mpr; omega
          have k3 : decide (c = l[i].f1.toNat) = decide (l[i].f1 = (c : Int)) := by apply decide_eq_decide.mpr; omega
          have k4 : decide (d = l[i].f0.toNat) = decide (l[i].f0 = (d : Int)) := by apply decide_eq_decide.mpr; omega
          rw [k1, k2, k3, k4, Bool.and_comm (decide (l[i].f1 = (c : Int)))]
        rw [hnext] at hput
        refine Ev.step (f := fun k => impl_Party_table.l0 k (tabF n (adj (l.take (i + 1)))) l (l.length : Int) ((i + 1 : Nat) : Int)) (fun k => ?_) ih
        simp only [impl_Party_table.l0]
        rw [if_pos (by omega), if_pos (by omega), if_pos (by omega), rdP_at hi, if_pos (by omega), if_pos (by rw [tabF_length]; omega), if_pos (by omega), Option.bind_some, if_pos (by rw [tabF_length]; omega), hput, succ_cast hi h]) 0 (Nat.zero_le _)
    have e : tabF n (adj (l.take 0)) = List.replicate n 0 := by
      have hz : ∀ m, maskOf (fun _ => false) m = 0 := by
        intro m
        induction m with
        | zero => rfl
        | succ m ih => unfold maskOf; rw [ih]; simp
      have : tabF n (fun _ _ => false) = List.replicate n 0 := by
        unfold tabF
        rw [List.eq_replicate_iff]
        refine ⟨by simp, fun b hb => ?_⟩
        obtain ⟨a, _, rfl⟩ := List.mem_map.1 hb
        rw [hz]; rfl
      rw [← this]
      apply tabF_congr
      intro a b _ _
      rw [List.take_zero, adj_nil]
    rw [e] at q
    exact q
end Go.Proofs.Ytlacnnnmeolomaa.Plain

/- The reference's table of a party: for each person, of each person, whether they are friends. No condition but lengths that fit. -/
namespace Go.Proofs.Ytlacnnnmeolomaa.Plain
open Go.RowKit Go.Proofs.YtlacnnnmeolomaaW.PrintWords Go.Proofs.YtlacnnnmeolomaaW.PrintLast
set_option linter.unusedVariables false
open Q

end Go.Proofs.Ytlacnnnmeolomaa.Plain

/- math/bits.OnesCount16 over a set of people, and the numbers of friends. No condition. -/
namespace Go.Proofs.Ytlacnnnmeolomaa.Plain
open Go.RowKit Go.Proofs.YtlacnnnmeolomaaW.PrintWords Go.Proofs.YtlacnnnmeolomaaW.PrintLast
set_option linter.unusedVariables false
open Q

/-- How many bits of a number are set. -/
def pop (k m : Nat) : Nat := cnt (fun b => m.testBit b) k

set_option maxRecDepth 100000 in
theorem pop_table : ∀ i : Fin 256, bt (⟨#[0, 1, 1, 2, 1, 2, 2, 3, 1, 2, 2, 3, 2, 3, 3, 4, 1, 2, 2, 3, 2, 3, 3, 4, 2, 3, 3, 4, 3, 4, 4, 5, 1, 2, 2, 3, 2, 3, 3, 4, 2, 3, 3, 4, 3, 4, 4, 5, 2, 3, 3, 4, 3, 4, 4, 5, 3, 4, 4, 5, 4, 5, 5, 6, 1, 2, 2, 3, 2, 3, 3, 4, 2, 3, 3, 4, 3, 4, 4, 5, 2, 3, 3, 4, 3, 4, 4, 5, 3, 4, 4, 5, 4, 5, 5, 6, 2, 3, 3, 4, 3, 4, 4, 5, 3, 4, 4, 5, 4, 5, 5, 6, 3, 4, 4, 5, 4, 5, 5, 6, 4, 5, 5, 6, 5, 6, 6, 7, 1, 2, 2, 3, 2, 3, 3, 4, 2, 3, 3, 4, 3, 4, 4, 5, 2, 3, 3, 4, 3, 4, 4, 5, 3, 4, 4, 5, 4, 5, 5, 6, 2, 3, 3, 4, 3, 4, 4, 5, 3, 4, 4, 5, 4, 5, 5, 6, 3, 4, 4, 5, 4, 5, 5, 6, 4, 5, 5, 6, 5, 6, 6, 7, 2, 3, 3, 4, 3, 4, 4, 5, 3, 4, 4, 5, 4, 5, 5, 6, 3, 4, 4, 5, 4, 5, 5, 6, 4, 5, 5, 6, 5, 6, 6, 7, 3, 4, 4, 5, 4, 5, 5, 6, 4, 5, 5, 6, 5, 6, 6, 7, 4, 5, 5, 6, 5, 6, 6, 7, 5, 6, 6, 7, 6, 7, 7, 8]⟩ : ByteArray) (i.val : Int) = (pop 8 i.val : Int) := by decide +kernel

theorem pop_le (k m : Nat) : pop k m ≤ k := cnt_le _ _
theorem pop_split (m : Nat) : pop 16 m = pop 8 (m / 256) + pop 8 (m % 256) := by
  have h : ∀ k, k ≤ 8 → pop (8 + k) m = pop k (m / 256) + pop 8 m := by
    intro k
    induction k with
    | zero => intro _; simp [pop, cnt_zero]
    | succ k ih =>
      intro hk
      have q := ih (by omega)
      unfold pop at q ⊢
      rw [show 8 + (k + 1) = (8 + k) + 1 by omega, cnt_succ, cnt_succ, q]
      have e : (m / 256).testBit k = m.testBit (8 + k) := by
        rw [show 256 = 2 ^ 8 by rfl, Nat.testBit_div_two_pow, Nat.add_comm]
      rw [e]; omega
  have e2 : pop 8 (m % 256) = pop 8 m := by
    unfold pop
    apply cnt_congr
    intro b hb
    rw [show 256 = 2 ^ 8 by rfl, Nat.testBit_mod_two_pow]
    simp [hb]
  have := h 8 (by omega)
  rw [e2]
  exact this

set_option maxRecDepth 100000 in
theorem onesCount_eq {m : Nat} (h : m < 2 ^ 16) : bits_OnesCount16.f (m : Int) = some ((pop 16 m : Nat) : Int) := by
  unfold bits_OnesCount16.f
  have e1 : (m : Int) / 256 = ((m / 256 : Nat) : Int) := by omega
  have e2 : Go.bits .and .u16 (m : Int) 255 = ((m % 256 : Nat) : Int) := by
    rw [show (255 : Int) = ((255 : Nat) : Int) by rfl, and16 h (by omega), show (255 : Nat) = 2 ^ 8 - 1 by rfl, Nat.and_two_pow_sub_one_eq_mod]
  rw [e1, e2]
  have t1 := pop_table ⟨m / 256, by omega⟩
  have t2 := pop_table ⟨m % 256, by omega⟩
  simp only [] at t1 t2
  rw [if_pos (by omega), if_pos (by omega), if_pos (by omega), if_pos (by omega), t1, t2, pop_split]
  have h1 := pop_le 8 (m / 256)
  have h2 := pop_le 8 (m % 256)
  congr 1
  omega

theorem pop_mask {f : Nat → Bool} {n : Nat} (h : n ≤ 16) : pop 16 (maskOf f n) = cnt f n := by
  unfold pop
  rw [show (16 : Nat) = n + (16 - n) by omega, ← cnt_ext f n (16 - n)]
  apply cnt_congr
  intro b _
  rw [maskOf_bit]

theorem count_mask {f : Nat → Bool} {n : Nat} (h : n ≤ 16) : bits_OnesCount16.f ((maskOf f n : Nat) : Int) = some ((cnt f n : Nat) : Int) := by
  rw [onesCount_eq (mask16 h), pop_mask h]
end Go.Proofs.Ytlacnnnmeolomaa.Plain

/- The numbers of friends, on both sides. No condition but lengths that fit. -/
namespace Go.Proofs.Ytlacnnnmeolomaa.Plain
open Go.RowKit Go.Proofs.YtlacnnnmeolomaaW.PrintWords Go.Proofs.YtlacnnnmeolomaaW.PrintLast
set_option linter.unusedVariables false
open Q

/-- How many friends each of n people has. -/
def numsF (n : Nat) (f : Nat → Nat → Bool) : List Int := (List.range n).map fun a => ((cnt (f a) n : Nat) : Int)
theorem numsF_length (n : Nat) (f : Nat → Nat → Bool) : (numsF n f).length = n := by simp [numsF]
theorem numsF_get {n : Nat} {f : Nat → Nat → Bool} {a : Nat} (h : a < n) : rd (numsF n f) (a : Int) = ((cnt (f a) n : Nat) : Int) := by
  rw [rd_at (by rw [numsF_length]; exact h)]
  simp [numsF]
theorem numsF_getElem {n : Nat} {f : Nat → Nat → Bool} {a : Nat} (h : a < (numsF n f).length) : (numsF n f)[a] = ((cnt (f a) n : Nat) : Int) := by
  simp [numsF]

theorem nums_put {n : Nat} (f : Nat → Nat → Bool) {a b : Nat} (ha : a < n) (hb : b < n) (hab : a ≠ b) (hn : n ≤ 12) (h1 : f a b = false) (h2 : f b a = false) :
    ((numsF n f).set a (wrap64 (rd (numsF n f) (a : Int) + 1))).set b (wrap64 (rd ((numsF n f).set a (wrap64 (rd (numsF n f) (a : Int) + 1))) (b : Int) + 1)) = numsF n (withP f a b) := by
  have c1 := cnt_le (f a) n
  have c2 := cnt_le (f b) n
  have e1 : wrap64 (rd (numsF n f) (a : Int) + 1) = ((cnt (withP f a b a) n : Nat) : Int) := by
    rw [numsF_get ha, wrap_id (by omega) (by omega), cnt_one (f := f a) (g := withP f a b a) hb h1 (fun c _ => by unfold withP; simp [hab])]
    omega
  have e2 : wrap64 (rd ((numsF n f).set a (wrap64 (rd (numsF n f) (a : Int) + 1))) (b : Int) + 1) = ((cnt (withP f a b b) n : Nat) : Int) := by
    rw [rd_at (by rw [List.length_set, numsF_length]; exact hb), List.getElem_set_ne hab, numsF_getElem, wrap_id (by omega) (by omega), cnt_one (f := f b) (g := withP f a b b) ha h2 (fun c _ => by unfold withP; simp [show ¬ (b = a) from fun q => hab q.symm])]
    omega
  rw [e2, e1]
  apply List.ext_getElem
  · simp [numsF_length]
  · intro i g1 g2
    rw [numsF_length] at g2
    rw [List.getElem_set, List.getElem_set]
    by_cases i1 : b = i
    · subst i1
      rw [if_pos rfl, numsF_getElem]
    · rw [if_neg i1]
      by_cases i2 : a = i
      · subst i2
        rw [if_pos rfl, numsF_getElem]
      · rw [if_neg i2, numsF_getElem, numsF_getElem]
        congr 1
        apply cnt_congr
        intro c _
        unfold withP
        simp [show ¬ (i = a) from fun q => i2 q.symm, show ¬ (i = b) from fun q => i1 q.symm]

theorem numsF_congr {n : Nat} {f g : Nat → Nat → Bool} (h : ∀ a b, a < n → b < n → f a b = g a b) : numsF n f = numsF n g := by
  unfold numsF
  apply List.map_congr_left
  intro a ha
  rw [cnt_congr (fun b hb => h a b (by simpa using ha) hb)]

theorem paNumbers_ev {n : Nat} {l : List Pr} (hn : n ≤ 12) (hr : Right n l) (hs : ∀ i j, (hj : j < l.length) → (hij : i < j) → lessB l[i] l[j] = true) (h : l.length ≤ 9223372036854775807) :
    Ev (fun k => spec_paNumbers.f k (n : Int) l) (numsF n (adj l)) := by
  refine Ev.congr (f := fun k => spec_paNumbers.l0 k (List.replicate n 0) l (l.length : Int) 0) (fun k => ?_) ?_
  · unfold spec_paNumbers.f
    rw [if_pos (by omega), if_pos (by omega), Int.toNat_natCast]
  · have q := ev_up (n := l.length) (loop := fun k i => spec_paNumbers.l0 k (numsF n (adj (l.take i))) l (l.length : Int) (i : Int)) (r := fun _ => numsF n (adj l))
      (Ev.step (f := fun _ => some (numsF n (adj l))) (fun k => by simp [spec_paNumbers.l0]) (Ev.now _))
      (fun i hi ih => by
        have r := hr _ (List.getElem_mem hi)
        have ea : ((l[i].f0.toNat : Nat) : Int) = l[i].f0 := by omega
        have eb : ((l[i].f1.toNat : Nat) : Int) = l[i].f1 := by omega
        have hf := fresh_pair hr hs hi
        have hput := nums_put (n := n) (adj (l.take i)) (a := l[i].f0.toNat) (b := l[i].f1.toNat) (by omega) (by omega) (by omega) hn hf (by rw [adj_comm]; exact hf)
        rw [ea, eb] at hput
        have hnext : numsF n (withP (adj (l.take i)) l[i].f0.toNat l[i].f1.toNat) = numsF n (adj (l.take (i + 1))) := by
          apply numsF_congr
          intro c d _ _
          rw [List.take_succ_eq_append_getElem hi, adj_snoc]
          unfold withP
          congr 1
          have k1 : decide (c = l[i].f0.toNat) = decide (l[i].f0 = (c : Int)) := by apply decide_eq_decide.mpr; omega
          have k2 : decide (d = l[i].f1.toNat) = decide (l[i].f1 = (d : Int)) := by apply decide_eq_decide.mpr; omega
          have k3 : decide (c = l[i].f1.toNat) = decide (l[i].f1 = (c : Int)) := by apply decide_eq_decide.mpr; omega
          have k4 : decide (d = l[i].f0.toNat) = decide (l[i].f0 = (d : Int)) := by apply decide_eq_decide.mpr; omega
          rw [k1, k2, k3, k4, Bool.and_comm (decide (l[i].f1 = (c : Int)))]
        rw [hnext] at hput
        refine Ev.step (f := fun k => spec_paNumbers.l0 k (numsF n (adj (l.take (i + 1)))) l (l.length : Int) ((i + 1 : Nat) : Int)) (fun k => ?_) ih
        simp only [spec_paNumbers.l0]
        rw [if_pos (by omega), if_pos (by omega), if_pos (by omega), rdP_at hi, if_pos (by omega), if_pos (by rw [numsF_length]; omega), Option.bind_some, if_pos (by omega), if_pos (by rw [numsF_length]; omega), hput, succ_cast hi h]) 0 (Nat.zero_le _)
    have e : numsF n (adj (l.take 0)) = List.replicate n 0 := by
      unfold numsF
      rw [List.eq_replicate_iff]
      refine ⟨by simp, fun b hb => ?_⟩
      obtain ⟨a, _, rfl⟩ := List.mem_map.1 hb
      have hz : ∀ m, cnt (adj (l.take 0) a) m = 0 := by
        intro m
        induction m with
        | zero => rfl
        | succ m ih => rw [cnt_succ, ih, List.take_zero, adj_nil]; rfl
      rw [hz]; rfl
    rw [e] at q
    exact q

theorem number_eq {n : Nat} (hn : n ≤ 12) (f : Nat → Nat → Bool) {a : Nat} (ha : a < n) : impl_table_number.f (tabF n f) (a : Int) = some ((cnt (f a) n : Nat) : Int) := by
  unfold impl_table_number.f
  rw [if_pos (by omega), if_pos (by rw [tabF_length]; omega), tabF_get ha, count_mask (by omega)]; rfl

theorem numbers_ev {n : Nat} (hn : n ≤ 12) (f : Nat → Nat → Bool) : Ev (fun k => impl_table_numbers.f k (tabF n f)) (numsF n f) := by
  have q := ev_up (n := n) (loop := fun k i => impl_table_numbers.l0 k (tabF n f) ((numsF n f).take i) (n : Int) (i : Int)) (r := fun _ => numsF n f)
    (Ev.step (f := fun _ => some (numsF n f)) (fun k => by
      simp only [impl_table_numbers.l0]
      rw [if_neg (by omega), List.take_of_length_le (by rw [numsF_length]; omega)]) (Ev.now _))
    (fun i hi ih => by
      have hin : i < (numsF n f).length := by rw [numsF_length]; exact hi
      refine Ev.step (f := fun k => impl_table_numbers.l0 k (tabF n f) ((numsF n f).take (i + 1)) (n : Int) ((i + 1 : Nat) : Int)) (fun k => ?_) ih
      simp only [impl_table_numbers.l0]
      rw [if_pos (by omega), number_eq hn f hi, Option.bind_some, if_pos (by simp; omega), succ_cast hi (by omega), List.take_succ_eq_append_getElem hin, numsF_getElem]) 0 (Nat.zero_le _)
  refine Ev.congr (f := fun k => impl_table_numbers.l0 k (tabF n f) [] (n : Int) 0) (fun k => ?_) (by simpa using q)
  unfold impl_table_numbers.f
  rw [tabF_length]
end Go.Proofs.Ytlacnnnmeolomaa.Plain

/- The reference's test of a party. No condition but a length that fits. -/
namespace Go.Proofs.Ytlacnnnmeolomaa.Plain
open Go.RowKit Go.Proofs.YtlacnnnmeolomaaW.PrintWords Go.Proofs.YtlacnnnmeolomaaW.PrintLast
set_option linter.unusedVariables false
open Q

/-- All pairs of n people. -/
def pairsOf (n : Nat) : List (Nat × Nat) := (List.range n).flatMap fun a => ((List.range n).filter fun b => decide (a < b)).map fun b => (a, b)

theorem pairsOf_length : ∀ n : Fin 13, (((pairsOf n.val).length : Nat) : Int) = (n.val : Int) * ((n.val : Int) - 1) / 2 := by decide +kernel

theorem mem_pairsOf {n a b : Nat} (h : a < b) (hb : b < n) : (a, b) ∈ pairsOf n := by
  unfold pairsOf
  rw [List.mem_flatMap]
  exact ⟨a, List.mem_range.mpr (by omega), List.mem_map.mpr ⟨b, List.mem_filter.mpr ⟨List.mem_range.mpr hb, by simpa using h⟩, rfl⟩⟩

/-- There are no more pairs in a party than pairs of its people. -/
theorem party_len {n : Nat} {l : List Pr} (hn : n ≤ 12) (hr : Right n l) (hs : ∀ i j, (hj : j < l.length) → (hij : i < j) → lessB l[i] l[j] = true) : (l.length : Int) ≤ (n : Int) * ((n : Int) - 1) / 2 := by
  have hnd : (l.map fun x => (x.f0.toNat, x.f1.toNat)).Nodup := by
    rw [List.nodup_iff_pairwise_ne, List.pairwise_iff_getElem]
    intro i j hi hj hij e
    simp only [List.length_map] at hi hj
    simp only [List.getElem_map, Prod.mk.injEq] at e
    have s := hs i j hj hij
    have r1 := hr _ (List.getElem_mem hi)
    have r2 := hr _ (List.getElem_mem hj)
    unfold lessB at s
    simp only [Bool.or_eq_true, Bool.and_eq_true, decide_eq_true_eq] at s
    omega
  have hsub : (l.map fun x => (x.f0.toNat, x.f1.toNat)) ⊆ pairsOf n := by
    intro p hp
    obtain ⟨x, hx, rfl⟩ := List.mem_map.1 hp
    have := hr x hx
    exact mem_pairsOf (by omega) (by omega)
  have h1 := List.Nodup.length_le_of_subset hnd hsub
  rw [List.length_map] at h1
  have h2 := pairsOf_length ⟨n, by omega⟩
  simp only [] at h2
  omega

theorem bound_eq {n : Int} (h0 : 0 ≤ n) (h1 : n ≤ 12) : wrap64 (Int.tdiv (wrap64 (n * (wrap64 (n - 1)))) 2) = n * (n - 1) / 2 := by
  have : n = 0 ∨ n = 1 ∨ n = 2 ∨ n = 3 ∨ n = 4 ∨ n = 5 ∨ n = 6 ∨ n = 7 ∨ n = 8 ∨ n = 9 ∨ n = 10 ∨ n = 11 ∨ n = 12 := by omega
  rcases this with rfl | rfl | rfl | rfl | rfl | rfl | rfl | rfl | rfl | rfl | rfl | rfl | rfl <;> decide +kernel

theorem paPeople_eq (n : Int) : spec_paPeople.f n = some (decide (0 ≤ n) && decide (n ≤ 12)) := by
  unfold spec_paPeople.f
  rw [l1In_eq]; rfl

theorem paGood_l0 (n : Int) (l : List Pr) (h0 : 0 ≤ n) (h1 : n ≤ 12) (h : l.length ≤ 9223372036854775807) : Ev (fun k => spec_paGood.l0 k l (l.length : Int) 0 n l) ((List.range l.length).all (okAt n l)) := by
  have q := ev_up (n := l.length) (loop := fun k i => spec_paGood.l0 k l (l.length : Int) (i : Int) n l) (r := fun i => ((List.range l.length).drop i).all (okAt n l))
    (Ev.step (f := fun _ => some true) (fun k => by simp only [spec_paGood.l0]; rw [if_neg (by omega)]) (by rw [all_end _ (Nat.le_refl _)]; exact Ev.now _))
    (fun i hi ih => by
      rw [all_step (okAt n l) hi]
      have e0 : okAt n l i = (pairOk n l[i] && (decide (i = 0) || lessB (rdP l ((i : Int) - 1)) l[i])) := by
        unfold okAt rdP; rw [rdP_at hi]
      have wn : wrap64 (n - 1) = n - 1 := wrap_id (by omega) (by omega)
      by_cases a1 : 0 ≤ l[i].f0 ∧ l[i].f0 ≤ n - 1
      · have w1 : wrap64 (l[i].f0 + 1) = l[i].f0 + 1 := wrap_id (by omega) (by omega)
        have b1 : (decide (0 ≤ l[i].f0) && decide (l[i].f0 ≤ n - 1)) = true := by simpa using a1
        by_cases a2 : l[i].f0 + 1 ≤ l[i].f1 ∧ l[i].f1 ≤ n - 1
        · have b2 : (decide (l[i].f0 + 1 ≤ l[i].f1) && decide (l[i].f1 ≤ n - 1)) = true := by simpa using a2
          have ep : pairOk n l[i] = true := by simp [pairOk]; omega
          by_cases a4 : i = 0
          · have e : okAt n l i = true := by rw [e0, ep, decide_eq_true a4]; simp
            rw [e]
            refine Ev.step (f := fun k => spec_paGood.l0 k l (l.length : Int) ((i + 1 : Nat) : Int) n l) (fun k => ?_) (by simpa using ih)
            simp only [spec_paGood.l0]
            rw [if_pos (by omega), if_pos (by omega), if_pos (by omega), rdP_at hi, wn, l1In_eq, b1, Option.bind_some, if_pos rfl, w1, l1In_eq, b2, Option.bind_some, if_pos rfl, if_neg (by omega), succ_cast hi h]
          · have ew : wrap64 ((i : Int) - 1) = ((i - 1 : Nat) : Int) := pred_cast (by omega) (by omega)
            have ew2 : ((i : Int) - 1) = ((i - 1 : Nat) : Int) := by omega
            have e : okAt n l i = lessB l[i-1] l[i] := by
              rw [e0, ep, decide_eq_false a4, ew2]
              unfold rdP
              rw [rdP_at (by omega)]; simp
            rw [e]
            refine Ev.step (f := fun k => if lessB l[i-1] l[i] = true then spec_paGood.l0 k l (l.length : Int) ((i + 1 : Nat) : Int) n l else some false) (fun k => ?_) ?_
            · simp only [spec_paGood.l0]
              rw [if_pos (by omega), if_pos (by omega), if_pos (by omega), rdP_at hi, wn, l1In_eq, b1, Option.bind_some, if_pos rfl, w1, l1In_eq, b2, Option.bind_some, if_pos rfl, if_pos (by omega), ew, if_pos (by omega), if_pos (by omega), rdP_at (by omega : i - 1 < l.length), paLess_eq, Option.bind_some, succ_cast hi h]
            · cases hb : lessB l[i-1] l[i] with
              | true => exact ev_if (fun _ => by simpa using ih) (fun h => absurd rfl h)
              | false => exact ev_some (fun _ => by simp)
        · have b2 : (decide (l[i].f0 + 1 ≤ l[i].f1) && decide (l[i].f1 ≤ n - 1)) = false := by
            rw [Bool.eq_false_iff]; intro q; exact a2 (by simpa using q)
          have e : okAt n l i = false := by rw [e0]; simp [pairOk]; omega
          rw [e]
          refine Ev.step (f := fun _ => some false) (fun k => ?_) (by simpa using Ev.now false)
          simp only [spec_paGood.l0]
          rw [if_pos (by omega), if_pos (by omega), if_pos (by omega), rdP_at hi, wn, l1In_eq, b1, Option.bind_some, if_pos rfl, w1, l1In_eq, b2, Option.bind_some, if_neg (by simp)]
      · have b1 : (decide (0 ≤ l[i].f0) && decide (l[i].f0 ≤ n - 1)) = false := by
          rw [Bool.eq_false_iff]; intro q; exact a1 (by simpa using q)
        have e : okAt n l i = false := by rw [e0]; simp [pairOk]; omega
        rw [e]
        refine Ev.step (f := fun _ => some false) (fun k => ?_) (by simpa using Ev.now false)
        simp only [spec_paGood.l0]
        rw [if_pos (by omega), if_pos (by omega), if_pos (by omega), rdP_at hi, wn, l1In_eq, b1, Option.bind_some, if_neg (by simp)]) 0 (Nat.zero_le _)
  simpa using q

theorem paGood_ev (n : Int) (l : List Pr) (h : l.length ≤ 9223372036854775807) : Ev (fun k => spec_paGood.f k n l) (party n l) := by
  unfold spec_paGood.f
  refine ev_bind0 (paPeople_eq n) ?_
  cases hb : (decide (0 ≤ n) && decide (n ≤ 12)) with
  | false =>
    have e : party n l = false := by unfold party; rw [hb]; rfl
    rw [e]
    refine ev_if (fun h => by simp at h) (fun _ => ?_)
    exact Ev.step (f := fun _ => some false) (fun k => by simp [spec_paGood.j0]) (Ev.now _)
  | true =>
    have hn : 0 ≤ n ∧ n ≤ 12 := by simpa using hb
    have e : party n l = (List.range l.length).all (okAt n l) := by unfold party; rw [hb]; rfl
    refine ev_if (fun _ => ?_) (fun h => absurd rfl h)
    rw [bound_eq hn.1 hn.2]
    by_cases c : (l.length : Int) > n * (n - 1) / 2
    · refine Ev.step (f := fun _ => some false) (fun k => ?_) ?_
      · simp only [spec_paGood.j0]
        rw [if_pos (decide_eq_true c)]
      · cases hp : party n l with
        | false => exact Ev.now _
        | true =>
          exfalso
          obtain ⟨m, rfl, h12, hr, hs⟩ := party_right hp
          have := party_len h12 hr hs
          omega
    · rw [e]
      refine Ev.step (f := fun k => spec_paGood.l0 k l (l.length : Int) 0 n l) (fun k => ?_) (paGood_l0 n l hn.1 hn.2 h)
      simp only [spec_paGood.j0]
      rw [if_neg (by simpa using c)]
end Go.Proofs.Ytlacnnnmeolomaa.Plain

/- The party of a table, on both sides. No condition but that there are at most twelve people. -/
namespace Go.Proofs.Ytlacnnnmeolomaa.Plain
open Go.RowKit Go.Proofs.YtlacnnnmeolomaaW.PrintWords Go.Proofs.YtlacnnnmeolomaaW.PrintLast
set_option linter.unusedVariables false
open Q

theorem has_eq {n : Nat} (hn : n ≤ 12) (f : Nat → Nat → Bool) {a b : Nat} (ha : a < n) (hb : b < n) : impl_table_has.f (tabF n f) (a : Int) (b : Int) = some (f a b) := by
  unfold impl_table_has.f
  rw [if_pos (by omega), if_pos (by rw [tabF_length]; omega), if_pos (by omega), tabF_get ha]
  have hm := mask16 (f := f a) (n := n) (by omega)
  have e1 : shr .u16 ((maskOf (f a) n : Nat) : Int) (b : Int) = ((maskOf (f a) n / 2 ^ b : Nat) : Int) := by
    unfold shr
    have h1 : min ((b : Int)).toNat IntKind.u16.bits = b := by
      rw [Int.toNat_natCast]
      exact Nat.min_eq_left (by show b ≤ 16; omega)
    rw [h1]
    simp
  have hlt : maskOf (f a) n / 2 ^ b < 2 ^ 16 := Nat.lt_of_le_of_lt (Nat.div_le_self _ _) hm
  have e2 : Go.bits .and .u16 ((maskOf (f a) n / 2 ^ b : Nat) : Int) 1 = (((maskOf (f a) n / 2 ^ b) % 2 : Nat) : Int) := by
    rw [show (1 : Int) = ((1 : Nat) : Int) by rfl, and16 hlt (by omega), Nat.and_one_is_mod]
  rw [e1, e2]
  have hb2 := maskOf_bit (f a) n b
  rw [Nat.testBit_eq_decide_div_mod_eq, decide_eq_true hb, Bool.true_and] at hb2
  congr 1
  rw [← hb2, Bool.eq_iff_iff, beq_iff_eq, decide_eq_true_eq]
  omega

end Go.Proofs.Ytlacnnnmeolomaa.Plain

/- The law's own functions over parties, and the reference's test. No condition but lengths that fit. -/
namespace Go.Proofs.Ytlacnnnmeolomaa.Plain
open Go.RowKit Go.Proofs.YtlacnnnmeolomaaW.PrintWords Go.Proofs.YtlacnnnmeolomaaW.PrintLast
set_option linter.unusedVariables false
open Q

abbrev Lp := S93
/-- A pair of the law's as a pair of the program's. -/
def toP (x : Lp) : Pr := ⟨x.f0, x.f1⟩

theorem szParty_eq (n : Int) (l : List Lp) (a : Int) (h0 : 0 ≤ a) (h1 : a ≤ 1048576) (h : l.length ≤ 9223372036854775807) : laws_szParty.f n l a = some (if a < (l.length : Int) then -1 else a - l.length) := by
  unfold laws_szParty.f laws_szPairS.f
  rw [wrap_id (by omega) (by omega)]
  by_cases hl : a < (l.length : Int)
  · rw [if_pos (by omega), Option.bind_some, if_pos (by omega), if_pos hl]
  · rw [if_neg (by omega), Option.bind_some, if_neg (by omega), if_neg hl]

theorem rdLp_at {l : List Lp} {i : Nat} (h : i < l.length) : rd_T93 l (i : Int) = l[i] := by
  simp [rd_T93, List.getD, h]

theorem copy_map {α β : Type} (z : β) (g : α → β) (l : List α) (i : Nat) (h : i < l.length) :
    ((l.map g).take i ++ List.replicate (l.length - i) z).set ((i : Int)).toNat (g l[i]) = (l.map g).take (i + 1) ++ List.replicate (l.length - (i + 1)) z := by
  have e : l.length - i = (l.length - (i + 1)) + 1 := by omega
  have hl : ((l.map g).take i).length = i := by simp; omega
  have hm : i < (l.map g).length := by simpa using h
  rw [Int.toNat_natCast, e, List.replicate_succ, List.set_append_right _ _ (by omega), hl, Nat.sub_self, List.set_cons_zero, List.take_succ_eq_append_getElem hm, List.append_assoc, List.getElem_map]
  rfl

theorem toPairS_ev (l : List Lp) (h : l.length ≤ 17592186044416) : Ev (fun k => laws_toPairS.f k l) (l.map toP) := by
  refine Ev.congr (f := fun k => laws_toPairS.l0 k l (List.replicate l.length z91) 0) (fun k => ?_) ?_
  · unfold laws_toPairS.f
    rw [if_pos (by omega), if_pos (by omega), Int.toNat_natCast]
  · have q := ev_up (n := l.length) (loop := fun k i => laws_toPairS.l0 k l ((l.map toP).take i ++ List.replicate (l.length - i) z91) (i : Int)) (r := fun _ => l.map toP)
      (Ev.step (f := fun _ => some (l.map toP)) (fun k => by
        simp only [laws_toPairS.l0]
        rw [if_neg (by omega), Nat.sub_self, List.replicate_zero, List.append_nil, List.take_of_length_le (by simp)]) (Ev.now _))
      (fun i hi ih => Ev.step (f := fun k => laws_toPairS.l0 k l ((l.map toP).take (i + 1) ++ List.replicate (l.length - (i + 1)) z91) ((i + 1 : Nat) : Int)) (fun k => by
        simp only [laws_toPairS.l0]
        rw [if_pos (by omega), if_pos (by omega), rdLp_at hi]
        show (if (i : Int) < _ then laws_toPairS.l0 k l (List.set _ _ (toP l[i])) _ else none) = _
        rw [if_pos (by simp; omega), copy_map _ toP l i hi, succ_cast hi (by omega)]) ih) 0 (Nat.zero_le _)
    simpa using q

theorem toParty_ev (n : Int) (l : List Lp) (h : l.length ≤ 17592186044416) : Ev (fun k => laws_toParty.f k n l) (n, l.map toP) := by
  unfold laws_toParty.f
  exact Ev.bind (f := fun _ t => some (n, t)) (toPairS_ev l h) (Ev.now _)

theorem eqPair_eq (x : Pr) : laws_eqPair.f x.f0 x.f1 x.f0 x.f1 = some true := by
  unfold laws_eqPair.f
  rw [if_pos rfl, if_pos rfl]

theorem eqPairS_ev (l : List Pr) (h : l.length ≤ 9223372036854775807) : Ev (fun k => laws_eqPairS.f k l l) true := by
  refine Ev.congr (f := fun k => laws_eqPairS.l0 k l l 0) (fun k => ?_) ?_
  · unfold laws_eqPairS.f
    rw [if_pos rfl]
  · exact ev_up (n := l.length) (loop := fun k i => laws_eqPairS.l0 k l l (i : Int)) (r := fun _ => true)
      (Ev.step (f := fun _ => some true) (fun k => by simp [laws_eqPairS.l0]) (Ev.now true))
      (fun i hi ih => Ev.step (f := fun k => laws_eqPairS.l0 k l l ((i + 1 : Nat) : Int)) (fun k => by
        simp only [laws_eqPairS.l0]
        rw [if_pos (by omega), if_pos (by omega), if_pos (by omega), rdP_at hi, eqPair_eq, Option.bind_some, if_pos rfl, succ_cast hi h]) ih) 0 (Nat.zero_le _)

theorem eqParty_ev (n : Int) (l : List Pr) (h : l.length ≤ 9223372036854775807) : Ev (fun k => laws_eqParty.f k n l n l) true := by
  refine Ev.congr (f := fun k => (laws_eqPairS.f k l l).bind fun t => if t = true then some true else some false) (fun k => ?_) ?_
  · unfold laws_eqParty.f
    rw [if_pos rfl]
  · exact Ev.bind (f := fun _ t => if t = true then some true else some false) (eqPairS_ev l h) (ev_some (fun _ => rfl))
end Go.Proofs.Ytlacnnnmeolomaa.Plain

/- Parties of couples: both sides' tests tell the same; the numbers told. No condition. -/
namespace Go.Proofs.Ytlacnnnmeolomaa.Plain
open Go.RowKit Go.Proofs.YtlacnnnmeolomaaW.PrintWords Go.Proofs.YtlacnnnmeolomaaW.PrintLast
set_option linter.unusedVariables false
open Q

theorem compact_len {l : List Int} (hs : l.Pairwise (fun a b => a ≤ b)) : (Go.Lib.compact l).length = l.length ↔ l.Nodup := by
  have e1 : (Go.Lib.compact l).length = ((List.range l.length).filter (Go.Lib.keeps l.toArray)).length := by simp [Go.Lib.compact, Go.Lib.compactUpTo]
  have e2 : ((List.range l.length).filter (Go.Lib.keeps l.toArray)).length = l.length ↔ ∀ j ∈ List.range l.length, Go.Lib.keeps l.toArray j = true := by
    conv => lhs; rhs; rw [← List.length_range (n := l.length)]
    exact List.length_filter_eq_length_iff
  rw [e1, e2, List.nodup_iff_pairwise_ne, List.pairwise_iff_getElem]
  rw [List.pairwise_iff_getElem] at hs
  have kp : ∀ j, (hj : j < l.length) → (h0 : 0 < j) → (Go.Lib.keeps l.toArray j = true ↔ l[j] ≠ l[j - 1]) := by
    intro j hj h0
    have a1 : l.toArray[j]! = l[j] := by simp [hj]
    have a2 : l.toArray[j - 1]! = l[j - 1] := by simp [show j - 1 < l.length by omega]
    unfold Go.Lib.keeps
    rw [a1, a2, decide_eq_true_eq]
    constructor
    · rintro (h | h)
      · omega
      · exact h
    · exact fun h => .inr h
  constructor
  · intro h i j hi hj hij e
    have h1 := (kp j hj (by omega)).1 (h j (List.mem_range.2 hj))
    rcases Nat.lt_or_ge i (j - 1) with c | c
    · have := hs i (j - 1) hi (by omega) c
      have := hs (j - 1) j (by omega) hj (by omega)
      omega
    · have : i = j - 1 := by omega
      subst this
      exact h1 e.symm
  · intro h j hj
    have hj' := List.mem_range.1 hj
    rcases Nat.eq_zero_or_pos j with h0 | h0
    · subst h0; simp [Go.Lib.keeps]
    · exact (kp j hj' h0).2 (fun e => h (j - 1) j (by omega) hj' (by omega) e.symm)

/-- Two of a couple are friends. -/
def clash (n : Nat) (f : Nat → Nat → Bool) (a : Nat) : Bool := ((List.range n).drop a).any fun c => decide (c % 2 = 0) && f c (c + 1)
/-- The numbers that the host hears. -/
def heard (n : Nat) (f : Nat → Nat → Bool) : List Int := (numsF n f).drop 1
theorem heard_length (n : Nat) (f : Nat → Nat → Bool) : (heard n f).length = n - 1 := by simp [heard, numsF_length]
def couples (n : Nat) (f : Nat → Nat → Bool) : Bool := !clash n f 0 && nodupB (heard n f)

theorem any_step (p : Nat → Bool) {n i : Nat} (h : i < n) : ((List.range n).drop i).any p = (p i || ((List.range n).drop (i + 1)).any p) := by
  rw [List.drop_eq_getElem_cons (by simpa using h)]
  simp
theorem any_end (p : Nat → Bool) {n i : Nat} (h : n ≤ i) : ((List.range n).drop i).any p = false := by
  rw [List.drop_eq_nil_of_le (by simpa using h)]; rfl

theorem areCouples_l0 {n : Nat} (hn : n ≤ 12) (he : n % 2 = 0) (f : Nat → Nat → Bool) : Ev (fun k => impl_areCouples.l0 k (tabF n f) (n : Int) 0) (clash n f 0) := by
  have q := ev_up (n := n / 2) (loop := fun k i => impl_areCouples.l0 k (tabF n f) (n : Int) ((2 * i : Nat) : Int)) (r := fun i => clash n f (2 * i))
    (Ev.step (f := fun _ => some false) (fun k => by simp only [impl_areCouples.l0]; rw [if_neg (by omega)]) (by
      unfold clash
      rw [any_end _ (by omega)]; exact Ev.now _))
    (fun i hi ih => by
      have e2 : wrap64 (((2 * i : Nat) : Int) + 2) = ((2 * (i + 1) : Nat) : Int) := by rw [wrap_id (by omega) (by omega)]; omega
      have e1 : wrap64 (((2 * i : Nat) : Int) + 1) = ((2 * i + 1 : Nat) : Int) := by rw [wrap_id (by omega) (by omega)]; omega
      have hc : clash n f (2 * i) = (f (2 * i) (2 * i + 1) || clash n f (2 * (i + 1))) := by
        unfold clash
        rw [any_step _ (show 2 * i < n by omega), any_step _ (show 2 * i + 1 < n by omega)]
        rw [show decide (2 * i % 2 = 0) = true from decide_eq_true (by omega), show decide ((2 * i + 1) % 2 = 0) = false from decide_eq_false (by omega), Bool.true_and, Bool.false_and, Bool.false_or]
        rfl
      rw [hc]
      refine Ev.step (f := fun k => if f (2 * i) (2 * i + 1) = true then some true else impl_areCouples.l0 k (tabF n f) (n : Int) ((2 * (i + 1) : Nat) : Int)) (fun k => ?_) ?_
      · simp only [impl_areCouples.l0]
        rw [if_pos (by omega), e1, e2, has_eq hn f (show 2 * i < n by omega) (show 2 * i + 1 < n by omega), Option.bind_some]
      · refine ev_if (fun c => ?_) (fun c => ?_)
        · rw [c]; exact Ev.now _
        · have c' : f (2 * i) (2 * i + 1) = false := by simpa using c
          rw [c', Bool.false_or]; exact ih) 0 (Nat.zero_le _)
  exact q

theorem told_ev {n : Nat} {l : List Pr} (hn : n ≤ 12) (h1 : 1 ≤ n) (hr : Right n l) (h : l.length ≤ 9223372036854775807) : Ev (fun k => impl_told.f k (n : Int) l) (sortI (heard n (adj l))) := by
  unfold impl_told.f
  refine Ev.bind (table_ev hn hr h) ?_
  refine Ev.bind (numbers_ev hn (adj l)) ?_
  have hz : (numsF n (adj l)).length = n := numsF_length _ _
  rw [if_pos (by omega), if_pos (by omega)]
  exact Ev.now _

theorem areCouples_ev {n : Nat} {l : List Pr} (hn : n ≤ 12) (h1 : 1 ≤ n) (he : n % 2 = 0) (hr : Right n l) (h : l.length ≤ 9223372036854775807) : Ev (fun k => impl_areCouples.f k (n : Int) l) (couples n (adj l)) := by
  unfold impl_areCouples.f couples
  refine Ev.bind (table_ev hn hr h) ?_
  refine Ev.bind (areCouples_l0 hn he (adj l)) ?_
  refine ev_if (fun c => by rw [c]; exact Ev.now _) (fun c => ?_)
  have c' : clash n (adj l) 0 = false := by simpa using c
  rw [c']
  refine Ev.bind (told_ev hn h1 hr h) ?_
  rw [wrap_id (by omega) (by omega)]
  refine ev_some (fun _ => ?_)
  congr 1
  rw [Bool.not_false, Bool.true_and, Bool.eq_iff_iff, decide_eq_true_eq, nodupB_iff]
  have hl : (sortI (heard n (adj l))).length = n - 1 := by rw [sortI_length, heard_length]
  have := compact_len (sortI_pairwise (heard n (adj l)))
  rw [(sortI_perm (heard n (adj l))).nodup_iff] at this
  rw [← this, hl]
  omega

theorem clash_pairs {n : Nat} {l : List Pr} (he : n % 2 = 0) (hr : Right n l) : clash n (adj l) 0 = l.any fun x => decide (x.f0 / 2 = x.f1 / 2) := by
  rw [Bool.eq_iff_iff]
  unfold clash
  simp only [List.drop_zero, List.any_eq_true, List.mem_range, Bool.and_eq_true, decide_eq_true_eq]
  constructor
  · rintro ⟨c, hc, h2, hf⟩
    obtain ⟨x, hx, h⟩ := adj_true.1 hf
    have := hr x hx
    exact ⟨x, hx, by omega⟩
  · rintro ⟨x, hx, h⟩
    have := hr x hx
    refine ⟨x.f0.toNat, by omega, by omega, adj_true.2 ⟨x, hx, .inl ⟨by omega, by omega⟩⟩⟩

theorem haCouples_ev {n : Nat} {l : List Pr} (hn : n ≤ 12) (h1 : 1 ≤ n) (he : n % 2 = 0) (hr : Right n l) (hs : ∀ i j, (hj : j < l.length) → (hij : i < j) → lessB l[i] l[j] = true) (h : l.length ≤ 9223372036854775807) : Ev (fun k => spec_haCouples.f k (n : Int) l) (couples n (adj l)) := by
  unfold couples
  rw [clash_pairs he hr]
  have hz : (numsF n (adj l)).length = n := numsF_length _ _
  have hl1 : Ev (fun k => spec_haCouples.l1 k (heard n (adj l)) (heard n (adj l)) ((heard n (adj l)).length : Int) 0) (nodupB (heard n (adj l))) := by
    have hq : (heard n (adj l)).length ≤ 12 := by rw [heard_length]; omega
    generalize heard n (adj l) = s at hq
    have q := ev_up (n := s.length) (loop := fun k i => spec_haCouples.l1 k s s (s.length : Int) (i : Int)) (r := fun i => ((List.range s.length).drop i).all fun i => !(s.take i).contains (rd s (i : Int)))
      (Ev.step (f := fun _ => some true) (fun k => by simp only [spec_haCouples.l1]; rw [if_neg (by omega)]) (by rw [all_end _ (Nat.le_refl _)]; exact Ev.now _))
      (fun i hi ih => by
        rw [all_step _ hi]
        refine Ev.step (f := fun k => (spec_l1Has.f k (s.take i) (rd s (i : Int))).bind fun t => if t = true then some false else spec_haCouples.l1 k s s (s.length : Int) ((i + 1 : Nat) : Int)) (fun k => ?_) ?_
        · simp only [spec_haCouples.l1]
          rw [if_pos (by omega), if_pos (by omega), if_pos (by omega), if_pos (by omega), Int.toNat_natCast, succ_cast hi (by omega)]
        · refine Ev.bind (l1Has_ev _ _ (by rw [List.length_take]; omega)) ?_
          refine ev_if (fun c => ?_) (fun c => ?_)
          · rw [c]; exact Ev.now _
          · have c' : (s.take i).contains (rd s (i : Int)) = false := by simpa using c
            rw [c']; simpa using ih) 0 (Nat.zero_le _)
    exact q
  have q := ev_up (n := l.length) (loop := fun k i => spec_haCouples.l0 k l (l.length : Int) (i : Int) (n : Int) l) (r := fun i => !((l.drop i).any fun x => decide (x.f0 / 2 = x.f1 / 2)) && nodupB (heard n (adj l)))
    (Ev.step (f := fun k => (spec_paNumbers.f k (n : Int) l).bind fun t => if 1 ≤ (t.length : Int) then ((some (t.drop 1 : List Int)).bind fun y => spec_haCouples.l1 k y y (y.length : Int) 0) else none) (fun k => by simp only [spec_haCouples.l0]; rw [if_neg (by omega)]) (by
      rw [List.drop_eq_nil_of_le (Nat.le_refl _)]
      refine Ev.bind (paNumbers_ev hn hr hs h) ?_
      refine ev_if (fun _ => ?_) (fun c => absurd (by omega) c)
      simpa [heard] using hl1))
    (fun i hi ih => by
      have hx := hr l[i] (List.getElem_mem hi)
      have w0 : wrap64 (Int.tdiv l[i].f0 2) = l[i].f0 / 2 := by rw [Int.tdiv_eq_ediv_of_nonneg (by omega), wrap_id (by omega) (by omega)]
      have w1 : wrap64 (Int.tdiv l[i].f1 2) = l[i].f1 / 2 := by rw [Int.tdiv_eq_ediv_of_nonneg (by omega), wrap_id (by omega) (by omega)]
      rw [List.drop_eq_getElem_cons hi, List.any_cons]
      by_cases c : l[i].f0 / 2 = l[i].f1 / 2
      · rw [decide_eq_true c]
        refine Ev.step (f := fun _ => some false) (fun k => ?_) (Ev.now _)
        simp only [spec_haCouples.l0]
        rw [if_pos (by omega), if_pos (by omega), if_pos (by omega), rdP_at hi, w0, w1, if_pos c]
      · rw [decide_eq_false c, Bool.false_or]
        refine Ev.step (f := fun k => spec_haCouples.l0 k l (l.length : Int) ((i + 1 : Nat) : Int) (n : Int) l) (fun k => ?_) ih
        simp only [spec_haCouples.l0]
        rw [if_pos (by omega), if_pos (by omega), if_pos (by omega), rdP_at hi, w0, w1, if_neg c, succ_cast hi h]) 0 (Nat.zero_le _)
  exact q

/-- Is it a party of an even number of people, at least two. -/
def even (n : Int) (l : List Pr) : Bool := party n l && decide (2 ≤ n ∧ n % 2 = 0)
theorem haEven_ev (n : Int) (l : List Pr) (h : l.length ≤ 9223372036854775807) : Ev (fun k => spec_haEven.f k n l) (even n l) := by
  unfold spec_haEven.f even
  refine Ev.bind (paGood_ev n l h) ?_
  refine ev_if (fun b => ?_) (fun b => ?_)
  · rw [b, Bool.true_and]
    refine ev_if (fun c => ?_) (fun c => ?_)
    · refine ev_some (fun _ => ?_)
      rw [Int.tmod_eq_emod_of_nonneg (by omega)]
      by_cases d : n % 2 = 0
      · rw [decide_eq_true ⟨c, d⟩, d]; rfl
      · rw [decide_eq_false (fun q => d q.2)]
        simpa using d
    · rw [decide_eq_false (fun q => c q.1)]; exact Ev.now _
  · have b' : party n l = false := by simpa using b
    rw [b']; exact Ev.now _

def areC (n : Int) (l : List Pr) : Bool × Bool := if even n l = true then (couples n.toNat (adj l), true) else (false, false)
theorem even_of {n : Int} {l : List Pr} (h : even n l = true) : ∃ m : Nat, n = (m : Int) ∧ m ≤ 12 ∧ 2 ≤ m ∧ m % 2 = 0 ∧ Right m l ∧ (∀ i j, (hj : j < l.length) → (hij : i < j) → lessB l[i] l[j] = true) ∧ party n l = true := by
  unfold even at h
  simp only [Bool.and_eq_true, decide_eq_true_eq] at h
  obtain ⟨b, h2, h3⟩ := h
  obtain ⟨m, rfl, hm, hr, hs⟩ := party_right b
  exact ⟨m, rfl, hm, by omega, by omega, hr, hs, b⟩

theorem implAreC_ev (n : Int) (l : List Pr) (h : l.length ≤ 9223372036854775807) : Ev (fun k => impl_AreCouples.f k n l) (areC n l) := by
  unfold impl_AreCouples.f areC
  refine Ev.bind (isParty_ev n l h) ?_
  by_cases b : party n l = true
  · obtain ⟨m, rfl, hm, hr, hs⟩ := party_right b
    rw [Int.tmod_eq_emod_of_nonneg (by omega)]
    refine ev_if (fun _ => ?_) (fun c => absurd b c)
    refine ev_if (fun c => ?_) (fun c => ev_if (fun d => ?_) (fun d => ?_))
    · rw [if_neg (by unfold even; simp only [Bool.and_eq_true, decide_eq_true_eq]; omega)]; exact Ev.now _
    · rw [if_neg (by unfold even; simp only [Bool.and_eq_true, decide_eq_true_eq]; omega)]; exact Ev.now _
    · rw [if_pos (by unfold even; simp only [Bool.and_eq_true, decide_eq_true_eq]; exact ⟨b, by omega, by omega⟩), Int.toNat_natCast]
      exact Ev.bind (f := fun _ t => some (t, true)) (areCouples_ev hm (by omega) (by omega) hr h) (Ev.now _)
  · refine ev_if (fun c => absurd c b) (fun _ => ?_)
    rw [if_neg (by unfold even; simp only [Bool.and_eq_true]; exact fun q => b q.1)]
    exact Ev.now _
end Go.Proofs.Ytlacnnnmeolomaa.Plain

/- The places at which a test holds, as a list. No condition. -/
namespace Go.Proofs.Ytlacnnnmeolomaa.Plain
open Go.RowKit Go.Proofs.YtlacnnnmeolomaaW.PrintWords Go.Proofs.YtlacnnnmeolomaaW.PrintLast
set_option linter.unusedVariables false
open Q

/-- Two rising lists with the same members are one. -/
theorem rising_unique {l m : List Int} (h1 : l.Pairwise (fun a b => a < b)) (h2 : m.Pairwise (fun a b => a < b)) (h : ∀ x, x ∈ l ↔ x ∈ m) : l = m := by
  induction l generalizing m with
  | nil =>
    cases m with
    | nil => rfl
    | cons y m => exact absurd ((h y).2 (by simp)) (by simp)
  | cons x l ih =>
    cases m with
    | nil => exact absurd ((h x).1 (by simp)) (by simp)
    | cons y m =>
      obtain ⟨hx, hl⟩ := List.pairwise_cons.1 h1
      obtain ⟨hy, hm⟩ := List.pairwise_cons.1 h2
      have e : x = y := by
        have a := (h x).1 (by simp)
        have b := (h y).2 (by simp)
        rcases List.mem_cons.1 a with a | a
        · exact a
        · rcases List.mem_cons.1 b with b | b
          · exact b.symm
          · have := hy x a; have := hx y b; omega
      subst e
      congr 1
      refine ih hl hm (fun z => ?_)
      constructor
      · intro hz
        rcases List.mem_cons.1 ((h z).1 (by simp [hz])) with e | e
        · have := hx z hz; omega
        · exact e
      · intro hz
        rcases List.mem_cons.1 ((h z).2 (by simp [hz])) with e | e
        · have := hy z hz; omega
        · exact e

end Go.Proofs.Ytlacnnnmeolomaa.Plain

/- A number put into a rising list; two rising lists merged. No condition. -/
namespace Go.Proofs.Ytlacnnnmeolomaa.Plain
open Go.RowKit Go.Proofs.YtlacnnnmeolomaaW.PrintWords Go.Proofs.YtlacnnnmeolomaaW.PrintLast
set_option linter.unusedVariables false
open Q

def insI : List Int → Int → List Int
  | [], x => [x]
  | y :: l, x => if y < x then y :: insI l x else if y = x then y :: l else x :: y :: l
theorem mem_insI : ∀ (l : List Int) (x z : Int), z ∈ insI l x ↔ z = x ∨ z ∈ l
  | [], x, z => by simp [insI]
  | y :: l, x, z => by
    unfold insI
    by_cases c : y < x
    · rw [if_pos c, List.mem_cons, mem_insI l x z, List.mem_cons]
      constructor
      · rintro (h | h | h)
        · exact .inr (.inl h)
        · exact .inl h
        · exact .inr (.inr h)
      · rintro (h | h | h)
        · exact .inr (.inl h)
        · exact .inl h
        · exact .inr (.inr h)
    · rw [if_neg c]
      by_cases d : y = x
      · rw [if_pos d, List.mem_cons]
        constructor
        · exact fun h => .inr h
        · rintro (h | h)
          · exact .inl (h.trans d.symm)
          · exact h
      · rw [if_neg d, List.mem_cons]
theorem insI_rising : ∀ (l : List Int) (x : Int), l.Pairwise (fun a b => a < b) → (insI l x).Pairwise (fun a b => a < b)
  | [], x, _ => by simp [insI]
  | y :: l, x, h => by
    obtain ⟨hy, hl⟩ := List.pairwise_cons.1 h
    unfold insI
    by_cases c : y < x
    · rw [if_pos c, List.pairwise_cons]
      refine ⟨fun z hz => ?_, insI_rising l x hl⟩
      rcases (mem_insI l x z).1 hz with e | e
      · omega
      · exact hy z e
    · rw [if_neg c]
      by_cases d : y = x
      · rw [if_pos d]; exact h
      · rw [if_neg d, List.pairwise_cons]
        refine ⟨fun z hz => ?_, h⟩
        rcases List.mem_cons.1 hz with e | e
        · omega
        · have := hy z e; omega
theorem insI_length : ∀ (l : List Int) (x : Int), (insI l x).length ≤ l.length + 1
  | [], x => by simp [insI]
  | y :: l, x => by
    unfold insI
    by_cases c : y < x
    · rw [if_pos c, List.length_cons, List.length_cons]; have := insI_length l x; omega
    · rw [if_neg c]
      by_cases d : y = x
      · rw [if_pos d]; omega
      · rw [if_neg d]; simp

/-- Distinct numbers put in one by one: the list sorted. -/
theorem foldl_ins : ∀ (l b : List Int), b.Pairwise (fun a b => a < b) → (l.foldl insI b).Pairwise (fun a b => a < b) ∧ ∀ z, z ∈ l.foldl insI b ↔ z ∈ b ∨ z ∈ l
  | [], b, h => ⟨h, fun z => by simp⟩
  | y :: l, b, h => by
    obtain ⟨h1, h2⟩ := foldl_ins l (insI b y) (insI_rising b y h)
    refine ⟨h1, fun z => ?_⟩
    rw [List.foldl_cons, h2, mem_insI, List.mem_cons]
    constructor
    · rintro ((q | q) | q)
      · exact .inr (.inl q)
      · exact .inl q
      · exact .inr (.inr q)
    · rintro (q | q | q)
      · exact .inl (.inr q)
      · exact .inl (.inl q)
      · exact .inr q
end Go.Proofs.Ytlacnnnmeolomaa.Plain

/- The laws' marks: written into a list and found again. No condition but a length that fits. -/
namespace Go.Proofs.Ytlacnnnmeolomaa.Plain
open Go.RowKit Go.Proofs.YtlacnnnmeolomaaW.PrintWords Go.Proofs.YtlacnnnmeolomaaW.PrintLast
set_option linter.unusedVariables false
open Q

/-- The marks of n pairs from v on. -/
def marksP (v : Int) (n : Nat) : List Pr := (List.range n).map fun i : Nat => ⟨v + 2 * (i : Int), v + 2 * (i : Int) + 1⟩
/-- The marks of n numbers from v on. -/
def marksI (v : Int) (n : Nat) : List Int := (List.range n).map fun i : Nat => v + (i : Int)
theorem marksP_length (v : Int) (n : Nat) : (marksP v n).length = n := by simp [marksP]
theorem marksI_length (v : Int) (n : Nat) : (marksI v n).length = n := by simp [marksI]
theorem marksP_get {v : Int} {n i : Nat} (h : i < (marksP v n).length) : (marksP v n)[i] = ⟨v + 2 * (i : Int), v + 2 * (i : Int) + 1⟩ := by simp [marksP]
theorem marksI_get {v : Int} {n i : Nat} (h : i < (marksI v n).length) : (marksI v n)[i] = v + (i : Int) := by simp [marksI]

theorem marksP_step (v : Int) (l : List Pr) {i : Nat} (hi : i < l.length) (x : Pr) (hx : x = ⟨v + 2 * (i : Int), v + 2 * (i : Int) + 1⟩) : (marksP v i ++ l.drop i).set i x = marksP v (i + 1) ++ l.drop (i + 1) := by
  apply List.ext_getElem
  · simp [marksP_length]; omega
  · intro j h1 h2
    rw [List.getElem_set]
    by_cases e : i = j
    · subst e
      rw [if_pos rfl, List.getElem_append_left (by rw [marksP_length]; omega), marksP_get, hx]
    · rw [if_neg e]
      by_cases c : j < i
      · rw [List.getElem_append_left (by rw [marksP_length]; omega), List.getElem_append_left (by rw [marksP_length]; omega), marksP_get, marksP_get]
      · rw [List.getElem_append_right (by rw [marksP_length]; omega), List.getElem_append_right (by rw [marksP_length]; omega), List.getElem_drop, List.getElem_drop]
        congr 1
        rw [marksP_length, marksP_length]
        omega
theorem marksI_step (v : Int) (l : List Int) {i : Nat} (hi : i < l.length) : (marksI v i ++ l.drop i).set i (v + (i : Int)) = marksI v (i + 1) ++ l.drop (i + 1) := by
  apply List.ext_getElem
  · simp [marksI_length]; omega
  · intro j h1 h2
    rw [List.getElem_set]
    by_cases e : i = j
    · subst e
      rw [if_pos rfl, List.getElem_append_left (by rw [marksI_length]; omega), marksI_get]
    · rw [if_neg e]
      by_cases c : j < i
      · rw [List.getElem_append_left (by rw [marksI_length]; omega), List.getElem_append_left (by rw [marksI_length]; omega), marksI_get, marksI_get]
      · rw [List.getElem_append_right (by rw [marksI_length]; omega), List.getElem_append_right (by rw [marksI_length]; omega), List.getElem_drop, List.getElem_drop]
        congr 1
        rw [marksI_length, marksI_length]
        omega

theorem markPairS_ev (l : List Pr) (v : Int) (h : l.length ≤ 1152921504606846976) (h0 : 0 ≤ v) (h1 : v ≤ 1000) : Ev (fun k => laws_markPairS.f k l v) (v + 2 * (l.length : Int), marksP v l.length) := by
  have q := ev_up (n := l.length) (loop := fun k i => laws_markPairS.l0 k (marksP v i ++ l.drop i) (v + 2 * (i : Int)) (i : Int)) (r := fun _ => (v + 2 * (l.length : Int), marksP v l.length))
    (by
      refine Ev.step (f := fun _ => some (v + 2 * (l.length : Int), marksP v l.length)) (fun k => ?_) (Ev.now _)
      simp only [laws_markPairS.l0]
      rw [List.drop_length, List.append_nil, if_neg (by rw [marksP_length]; omega)])
    (fun i hi ih => by
      have hlen : (marksP v i ++ l.drop i).length = l.length := by rw [List.length_append, marksP_length, List.length_drop]; omega
      have w1 : wrap64 (v + 2 * (i : Int) + 1) = v + 2 * (i : Int) + 1 := wrap_id (by omega) (by omega)
      have w2 : wrap64 (v + 2 * (i : Int) + 1 + 1) = v + 2 * ((i + 1 : Nat) : Int) := by rw [wrap_id (by omega) (by omega)]; omega
      refine Ev.step (f := fun k => laws_markPairS.l0 k (marksP v (i + 1) ++ l.drop (i + 1)) (v + 2 * ((i + 1 : Nat) : Int)) ((i + 1 : Nat) : Int)) (fun k => ?_) ih
      simp only [laws_markPairS.l0]
      rw [if_pos (by rw [hlen]; omega), if_pos (by omega), Option.bind_some, w1, w2, succ_cast hi (by omega), Int.toNat_natCast, List.set_set]
      rw [marksP_step v l hi _ (by rw [rdP_at (by rw [List.length_set, hlen]; exact hi), List.getElem_set_self])]) 0 (Nat.zero_le _)
  have e : marksP v 0 ++ l.drop 0 = l := by simp [marksP]
  rw [e] at q
  simpa [laws_markPairS.f] using q

theorem markIntS_ev (l : List Int) (v : Int) (h : l.length ≤ 1152921504606846976) (h0 : 0 ≤ v) (h1 : v ≤ 1000) : Ev (fun k => laws_markIntS.f k l v) (v + (l.length : Int), marksI v l.length) := by
  have q := ev_up (n := l.length) (loop := fun k i => laws_markIntS.l0 k (marksI v i ++ l.drop i) (v + (i : Int)) (i : Int)) (r := fun _ => (v + (l.length : Int), marksI v l.length))
    (by
      refine Ev.step (f := fun _ => some (v + (l.length : Int), marksI v l.length)) (fun k => ?_) (Ev.now _)
      simp only [laws_markIntS.l0]
      rw [List.drop_length, List.append_nil, if_neg (by rw [marksI_length]; omega)])
    (fun i hi ih => by
      have hlen : (marksI v i ++ l.drop i).length = l.length := by rw [List.length_append, marksI_length, List.length_drop]; omega
      have w1 : wrap64 (v + (i : Int) + 1) = v + ((i + 1 : Nat) : Int) := by rw [wrap_id (by omega) (by omega)]; omega
      refine Ev.step (f := fun k => laws_markIntS.l0 k (marksI v (i + 1) ++ l.drop (i + 1)) (v + ((i + 1 : Nat) : Int)) ((i + 1 : Nat) : Int)) (fun k => ?_) ih
      simp only [laws_markIntS.l0]
      rw [if_pos (by rw [hlen]; omega), if_pos (by omega), w1, succ_cast hi (by omega), Int.toNat_natCast, marksI_step v l hi]) 0 (Nat.zero_le _)
  have e : marksI v 0 ++ l.drop 0 = l := by simp [marksI]
  rw [e] at q
  simpa [laws_markIntS.f] using q

theorem heldIntS_ev (n : Nat) (v : Int) (h : n ≤ 1152921504606846976) (h0 : 0 ≤ v) (h1 : v ≤ 1000) : Ev (fun k => laws_heldIntS.f k (marksI v n) v) (v + (n : Int)) := by
  have hl := marksI_length v n
  have q := ev_up (n := n) (loop := fun k i => laws_heldIntS.l0 k (marksI v n) (v + (i : Int)) (i : Int)) (r := fun _ => v + (n : Int))
    (Ev.step (f := fun _ => some (v + (n : Int))) (fun k => by simp only [laws_heldIntS.l0]; rw [if_neg (by rw [hl]; omega)]) (Ev.now _))
    (fun i hi ih => by
      have w1 : wrap64 (v + (i : Int) + 1) = v + ((i + 1 : Nat) : Int) := by rw [wrap_id (by omega) (by omega)]; omega
      refine Ev.step (f := fun k => laws_heldIntS.l0 k (marksI v n) (v + ((i + 1 : Nat) : Int)) ((i + 1 : Nat) : Int)) (fun k => ?_) ih
      simp only [laws_heldIntS.l0]
      rw [if_pos (by rw [hl]; omega), if_pos (by omega), rd_at (by rw [hl]; exact hi), marksI_get, if_pos rfl, w1, succ_cast hi (by omega)]) 0 (Nat.zero_le _)
  simpa [laws_heldIntS.f] using q

theorem markParty_ev (n : Int) (l : List Pr) (h : l.length ≤ 1152921504606846976) : Ev (fun k => laws_markParty.f k n l 1) (1 + 2 * (l.length : Int), marksP 1 l.length) := by
  unfold laws_markParty.f
  exact Ev.bind (f := fun _ bt => some (bt.1, bt.2)) (markPairS_ev l 1 h (by omega) (by omega)) (Ev.now _)

end Go.Proofs.Ytlacnnnmeolomaa.Plain
/- The program's ToldNumbers returns what the reference's returns, for all arguments. No condition. -/
namespace Go.Proofs.Ytlacnnnmeolomaa.Pure
open Go.RowKit Go.Proofs.YtlacnnnmeolomaaW.PrintWords Go.Proofs.YtlacnnnmeolomaaW.PrintLast
set_option linter.unusedVariables false
open Q Plain

theorem l1Put_ev (l : List Int) (x : Int) (h : l.length ≤ 1000) : Ev (fun k => spec_l1Put.f k l x) (insI l x) := by
  have key : ∀ d i, l.length - i = d → i ≤ l.length → Ev (fun k => spec_l1Put.l0 k l x (i : Int)) (l.take i ++ insI (l.drop i) x) := by
    intro d
    induction d with
    | zero =>
      intro i hd hi
      obtain rfl : i = l.length := by omega
      refine Ev.step (f := fun _ => some (l ++ [x])) (fun k => ?_) ?_
      · simp only [spec_l1Put.l0]
        rw [if_neg (by omega), Option.bind_some, if_pos (by omega), if_pos (by omega), Option.bind_some, Int.toNat_natCast, List.take_length, if_pos (by simp only [List.length_nil]; omega), Option.bind_some, if_pos (by simp; omega), Option.bind_some, List.drop_length, Option.bind_some, if_pos (by simp; omega)]
        simp
      · rw [List.take_length, List.drop_length]; exact Ev.now _
    | succ d ih =>
      intro i hd hi
      have hi' : i < l.length := by omega
      rw [List.drop_eq_getElem_cons hi']
      unfold insI
      by_cases c : l[i] < x
      · rw [if_pos c]
        refine Ev.step (f := fun k => spec_l1Put.l0 k l x ((i + 1 : Nat) : Int)) (fun k => ?_) ?_
        · simp only [spec_l1Put.l0]
          rw [if_pos (by omega), if_pos (by omega), rd_at hi', if_pos c, succ_cast hi' (by omega)]
        · have := ih (i + 1) (by omega) (by omega)
          rw [List.take_succ_eq_append_getElem hi', List.append_assoc] at this
          exact this
      · rw [if_neg c]
        by_cases e : l[i] = x
        · rw [if_pos e, ← List.drop_eq_getElem_cons hi', List.take_append_drop]
          refine Ev.step (f := fun _ => some l) (fun k => ?_) (Ev.now _)
          simp only [spec_l1Put.l0]
          rw [if_pos (by omega), if_pos (by omega), rd_at hi', if_neg c, if_pos e]
        · rw [if_neg e, ← List.drop_eq_getElem_cons hi']
          refine Ev.step (f := fun _ => some (l.take i ++ x :: l.drop i)) (fun k => ?_) (Ev.now _)
          simp only [spec_l1Put.l0]
          rw [if_pos (by omega), if_pos (by omega), rd_at hi', if_neg c, if_neg e, Option.bind_some, if_pos (by omega), Option.bind_some, Int.toNat_natCast, if_pos (by simp; omega), Option.bind_some, if_pos (by simp; omega), Option.bind_some, Option.bind_some, if_pos (by simp; omega)]
          simp
  have := key _ 0 rfl (Nat.zero_le _)
  rw [List.take_zero, List.nil_append, List.drop_zero] at this
  exact this

theorem foldl_ins_length : ∀ (l b : List Int), (l.foldl insI b).length ≤ b.length + l.length
  | [], b => by simp
  | y :: l, b => by
    have h1 := foldl_ins_length l (insI b y)
    have h2 := insI_length b y
    rw [List.foldl_cons, List.length_cons]; omega

theorem ins_sort {l : List Int} (h : l.Nodup) : l.foldl insI [] = sortI l := by
  obtain ⟨h1, h2⟩ := foldl_ins l [] (by simp)
  have h3 : (sortI l).Pairwise (fun a b => a < b) := by
    have hs := sortI_pairwise l
    have hn := (sortI_perm l).nodup_iff.2 h
    rw [List.nodup_iff_pairwise_ne, List.pairwise_iff_getElem] at hn
    rw [List.pairwise_iff_getElem] at hs ⊢
    intro i j hi hj hij
    have a1 := hs i j hi hj hij
    have a2 := hn i j hi hj hij
    omega
  refine rising_unique h1 h3 (fun z => ?_)
  rw [h2, (sortI_perm l).mem_iff]
  simp

/-- What both sides tell. -/
def tell (n : Int) (l : List Pr) : List Int × Bool := if even n l = true then (if couples n.toNat (adj l) = true then (sortI (heard n.toNat (adj l)), true) else ([], false)) else ([], false)

theorem impl_ev (n : Int) (l : List Pr) (h : l.length ≤ 9223372036854775807) : Ev (fun k => impl_ToldNumbers.f k n l) (tell n l) := by
  unfold impl_ToldNumbers.f tell
  refine Ev.bind (implAreC_ev n l h) ?_
  unfold areC
  by_cases b : even n l = true
  · obtain ⟨m, rfl, hm, h2, he, hr, hs, _⟩ := even_of b
    rw [if_pos b, if_pos b, Int.toNat_natCast]
    refine ev_if (fun c => ?_) (fun c => by rw [if_neg c]; exact Ev.now _)
    rw [if_pos c]
    exact Ev.bind (f := fun _ t => some (t, true)) (told_ev hm (by omega) hr h) (Ev.now _)
  · rw [if_neg b, if_neg b]
    exact ev_if (fun c => absurd c (by simp)) (fun _ => Ev.now _)

theorem spec_ev (n : Int) (l : List Pr) (h : l.length ≤ 9223372036854775807) : Ev (fun k => spec_ToldNumbers.f k n l) (tell n l) := by
  unfold spec_ToldNumbers.f tell
  have bad : Ev (fun k => spec_ToldNumbers.j0 k true n l) ([], false) := Ev.step (f := fun _ => some ([], false)) (fun k => by simp only [spec_ToldNumbers.j0]; rfl) (Ev.now _)
  refine Ev.bind (haEven_ev n l h) ?_
  refine ev_if (fun b => ?_) (fun b => by rw [if_neg b]; exact bad)
  rw [if_pos b]
  obtain ⟨m, rfl, hm, h2, he, hr, hs, _⟩ := even_of b
  rw [Int.toNat_natCast]
  refine Ev.bind (haCouples_ev hm (by omega) he hr hs h) ?_
  cases hc : couples m (adj l) with
  | false => exact bad
  | true =>
    have hn : (heard m (adj l)).Nodup := by
      unfold couples at hc
      simp only [Bool.and_eq_true] at hc
      exact nodupB_iff.1 hc.2
    refine Ev.step (f := fun k => (spec_paNumbers.f k (m : Int) l).bind fun t => if 1 ≤ (t.length : Int) then ((some (t.drop 1 : List Int)).bind fun y => spec_ToldNumbers.l0 k ([] : List Int) y (y.length : Int) 0) else none) (fun k => by simp only [spec_ToldNumbers.j0]; rfl) ?_
    refine Ev.bind (paNumbers_ev hm hr hs h) ?_
    refine ev_if (fun _ => ?_) (fun c => absurd (by rw [numsF_length]; omega) c)
    refine ev_bind0 rfl ?_
    show Ev (fun k => spec_ToldNumbers.l0 k ([] : List Int) (heard m (adj l)) ((heard m (adj l)).length : Int) 0) (sortI (heard m (adj l)), true)
    rw [← ins_sort hn]
    have hl : (heard m (adj l)).length ≤ 12 := by rw [heard_length]; omega
    generalize heard m (adj l) = s at hl
    have q := ev_up (n := s.length) (loop := fun k i => spec_ToldNumbers.l0 k ((s.take i).foldl insI []) s (s.length : Int) (i : Int)) (r := fun _ => (s.foldl insI [], true))
      (Ev.step (f := fun _ => some (s.foldl insI [], true)) (fun k => by simp only [spec_ToldNumbers.l0]; rw [if_neg (by omega), List.take_length]) (Ev.now _))
      (fun i hi ih => by
        refine Ev.step (f := fun k => (spec_l1Put.f k ((s.take i).foldl insI []) s[i]).bind fun t => spec_ToldNumbers.l0 k t s (s.length : Int) ((i + 1 : Nat) : Int)) (fun k => ?_) ?_
        · simp only [spec_ToldNumbers.l0]
          rw [if_pos (by omega), if_pos (by omega), if_pos (by omega), rd_at hi, succ_cast hi (by omega)]
        · have hb := foldl_ins_length (s.take i) []
          refine Ev.bind (l1Put_ev _ _ (by rw [List.length_take, List.length_nil] at hb; omega)) ?_
          rw [List.take_succ_eq_append_getElem hi, List.foldl_append] at ih
          exact ih) 0 (Nat.zero_le _)
    exact q

theorem tell_len (n : Int) (l : List Pr) : (tell n l).1.length ≤ 12 := by
  unfold tell
  by_cases b : even n l = true
  · obtain ⟨m, rfl, hm, _⟩ := even_of b
    rw [if_pos b]
    by_cases c : couples (m : Int).toNat (adj l) = true
    · rw [if_pos c, sortI_length, heard_length, Int.toNat_natCast]; omega
    · rw [if_neg c]; simp
  · rw [if_neg b]; simp

theorem FnExactToldNumbers : laws_FnExactToldNumbers.Pure := by
  intro n l _ hl _
  refine Ev.rounds (g := fun k => laws_FnExactToldNumbers.f k n l) ?_
  unfold laws_FnExactToldNumbers.f
  refine ev_bind0 (szParty_eq n l 1048576 (by omega) (by omega) hl) ?_
  refine ev_if (fun _ => Ev.now _) (fun hb => ?_)
  have hs : l.length ≤ 1048576 := by
    by_cases h : (1048576 : Int) < (l.length : Int)
    · rw [if_pos h] at hb; omega
    · omega
  have hTl := toParty_ev n l (by omega)
  have hl2 : (l.map toP).length ≤ 1048576 := by rw [List.length_map]; exact hs
  have hS := spec_ev n (l.map toP) (by omega)
  have hI := impl_ev n (l.map toP) (by omega)
  have hp := tell_len n (l.map toP)
  generalize tell n (l.map toP) = z at hS hI hp
  obtain ⟨ps, ok1⟩ := z
  replace hp : ps.length ≤ 12 := hp
  refine Ev.bind hTl ?_
  refine Ev.bind hS ?_
  refine Ev.bind hTl ?_
  refine Ev.bind hI ?_
  refine Ev.bind (eqIntS_ev ps (by omega)) ?_
  refine ev_if (fun _ => ?_) (fun h => absurd rfl h)
  show Ev (fun k => laws_FnExactToldNumbers.j0 k ps ok1 ps ok1 (ok1 != ok1) n l n (l.map toP)) true
  rw [show (ok1 != ok1) = false by simp]
  refine Ev.step (f := fun k => (laws_toParty.f k n l).bind fun bt458 => ((laws_eqParty.f k n (l.map toP) bt458.1 bt458.2).bind fun t462 => (if t462 = true then ((laws_markParty.f k n (l.map toP) 1).bind fun bt463 => (if bt463.1 < 0 then (laws_FnExactToldNumbers.j1 k ps ok1 ps true n l) else ((laws_eqIntS.f k ps ps).bind fun t465 => (if t465 = true then (laws_FnExactToldNumbers.j1 k ps ok1 ps (ok1 != ok1) n l) else (laws_FnExactToldNumbers.j1 k ps ok1 ps true n l))))) else (some false)))) (fun k => by simp only [laws_FnExactToldNumbers.j0]; rfl) ?_
  refine Ev.bind hTl ?_
  refine Ev.bind (eqParty_ev n (l.map toP) (by simp only [List.length_map]; omega)) ?_
  refine ev_if (fun _ => ?_) (fun h => absurd rfl h)
  refine Ev.bind (markParty_ev n (l.map toP) (by simp only [List.length_map]; omega)) ?_
  refine ev_if (fun (q : (1 + 2 * ((l.map toP).length : Int)) < 0) => by omega) (fun _ => ?_)
  refine Ev.bind (eqIntS_ev ps (by omega)) ?_
  refine ev_if (fun _ => ?_) (fun h => absurd rfl h)
  show Ev (fun k => laws_FnExactToldNumbers.j1 k ps ok1 ps (ok1 != ok1) n l) true
  rw [show (ok1 != ok1) = false by simp]
  refine Ev.step (f := fun k => (laws_markIntS.f k ps 1).bind fun bt466 => ((laws_heldIntS.f k bt466.2 1).bind fun t468 => (if t468 < 0 then (some false) else (if t468 = bt466.1 then ((laws_toParty.f k n l).bind fun bt469 => ((impl_ToldNumbers.f k bt469.1 bt469.2).bind fun bt473 => ((laws_eqIntS.f k bt473.1 ps).bind fun t477 => (if t477 = true then (laws_FnExactToldNumbers.j2 k bt466.2 bt466.1 (bt473.2 != ok1)) else (laws_FnExactToldNumbers.j2 k bt466.2 bt466.1 true))))) else (some false))))) (fun k => by simp only [laws_FnExactToldNumbers.j1]; rfl) ?_
  refine Ev.bind (markIntS_ev ps 1 (by omega) (by omega) (by omega)) ?_
  refine Ev.bind (heldIntS_ev _ 1 (by omega) (by omega) (by omega)) ?_
  refine ev_if (fun (q : (1 + ((ps.length : Nat) : Int)) < 0) => by omega) (fun _ => ?_)
  refine ev_if (fun _ => ?_) (fun h => absurd rfl h)
  refine Ev.bind hTl ?_
  refine Ev.bind hI ?_
  refine Ev.bind (eqIntS_ev ps (by omega)) ?_
  refine ev_if (fun _ => ?_) (fun h => absurd rfl h)
  show Ev (fun k => laws_FnExactToldNumbers.j2 k (marksI 1 ps.length) (1 + (ps.length : Int)) (ok1 != ok1)) true
  rw [show (ok1 != ok1) = false by simp]
  refine Ev.step (f := fun k => (laws_heldIntS.f k (marksI 1 ps.length) 1).bind fun t478 => (if t478 < 0 then (some false) else (if t478 = (1 + (ps.length : Int)) then (some true) else (some false)))) (fun k => by simp only [laws_FnExactToldNumbers.j2]; rfl) ?_
  refine Ev.bind (heldIntS_ev _ 1 (by omega) (by omega) (by omega)) ?_
  refine ev_if (fun (q : (1 + ((ps.length : Nat) : Int)) < 0) => by omega) (fun _ => ?_)
  refine ev_if (fun _ => ?_) (fun h => absurd rfl h)
  exact Ev.now _
end Go.Proofs.Ytlacnnnmeolomaa.Pure
