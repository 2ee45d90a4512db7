import Derived.Test.YtdkmkcgghhncdaaQ0
import Derived.Test.YtdkmkcgghhncdaaQ2
import Derived.Test.YtdkmkcgghhncdaaQ7
import Derived.Test.YtdkmkcgghhncdaaQ11
import Derived.Test.YtdkmkcgghhncdaaQ15
import Derived.Test.YtdkmkcgghhncdaaQ23
import Derived.Test.YtdkmkcgghhncdaaQ24
import Derived.Test.YtdkmkcgghhncdaaQ27
import Derived.Test.YtdkmkcgghhncdaaQ29
import Derived.Test.YtdkmkcgghhncdaaQ30
import Derived.Test.YtdkmkcgghhncdaaQ33
import Derived.Test.YtdkmkcgghhncdaaQ35
import Derived.Test.YtdkmkcgghhncdaaQ36
import Derived.Test.YtdkmkcgghhncdaaQ37
import Derived.Test.YtdkmkcgghhncdaaQ42
import Derived.Test.YtdkmkcgghhncdaaSayFnExactFirstSeating
/- Plain lemmas over rounds, lists and whole numbers, for the pure statements of this seat. No condition. -/
namespace Go.Proofs.Ytdkmkcgghhncdaa.Plain
open Go.RowKit Go.Proofs.YtdkmkcgghhncdaaW.PrintWords Go.Proofs.YtdkmkcgghhncdaaW.PrintLast
set_option linter.unusedVariables false

theorem wrap_id {x : Int} (h0 : -9223372036854775808 ≤ x) (h1 : x ≤ 9223372036854775807) : wrap64 x = x := by
  unfold wrap64
  omega

theorem rd_at {l : List Int} {i : Nat} (h : i < l.length) : rd l (i : Int) = l[i] := by
  simp [rd, List.getD, h]

theorem ev_some {α : Type} {g : Nat → Option α} {r : α} (h : ∀ k, g k = some r) : Ev g r := ⟨0, fun k _ => h k⟩

theorem ev_bind0 {α β : Type} {g : Option α} {f : Nat → α → Option β} {a : α} {r : β} (h : g = some a) (k : Ev (fun n => f n a) r) : Ev (fun n => g.bind (f n)) r := by
  obtain ⟨K, hK⟩ := k
  refine ⟨K, fun n hn => ?_⟩
  show g.bind (f n) = some r
  rw [h]
  exact hK n hn

theorem ev_if {α : Type} {c : Prop} [Decidable c] {f g : Nat → Option α} {r : α} (hf : c → Ev f r) (hg : ¬ c → Ev g r) : Ev (fun n => if c then f n else g n) r := by
  by_cases h : c
  · obtain ⟨K, hK⟩ := hf h
    exact ⟨K, fun n hn => (if_pos h).trans (hK n hn)⟩
  · obtain ⟨K, hK⟩ := hg h
    exact ⟨K, fun n hn => (if_neg h).trans (hK n hn)⟩

/-- A loop over an index, from any index on, in one shape. -/
theorem ev_up {α : Type} {n : Nat} {loop : Nat → Nat → Option α} {r : Nat → α} (hend : Ev (fun k => loop k n) (r n)) (hstep : ∀ i, i < n → (Ev (fun k => loop k (i + 1)) (r (i + 1)) → Ev (fun k => loop k i) (r i))) :
    ∀ i, i ≤ n → Ev (fun k => loop k i) (r i) := by
  intro i hi
  have : ∀ d i, i ≤ n → n - i = d → Ev (fun k => loop k i) (r i) := by
    intro d
    induction d with
    | zero =>
      intro i hi hd
      have e : i = n := by omega
      rw [e]; exact hend
    | succ d ih =>
      intro i hi hd
      exact hstep i (by omega) (ih (i + 1) (by omega) (by omega))
  exact this (n - i) i hi rfl
theorem all_step (f : Nat → Bool) {m i : Nat} (h : i < m) : ((List.range m).drop i).all f = (f i && ((List.range m).drop (i + 1)).all f) := by
  rw [List.drop_eq_getElem_cons (by simpa using h), List.all_cons, List.getElem_range]
theorem all_end (f : Nat → Bool) {m i : Nat} (h : m ≤ i) : ((List.range m).drop i).all f = true := by
  rw [List.drop_of_length_le (by simpa using h)]; rfl
theorem succ_cast {i n : Nat} (h : i < n) (hn : n ≤ 9223372036854775807) : wrap64 ((i : Int) + 1) = ((i + 1 : Nat) : Int) := by
  rw [wrap_id (by omega) (by omega)]; rfl
theorem pred_cast {i : Nat} (h : 1 ≤ i) (hn : i ≤ 9223372036854775807) : wrap64 ((i : Int) - 1) = ((i - 1 : Nat) : Int) := by
  rw [wrap_id (by omega) (by omega)]; omega
end Go.Proofs.Ytdkmkcgghhncdaa.Plain

/- The law's own functions over lists of whole numbers: copies, equality, bounds. No condition but lengths that fit. -/
namespace Go.Proofs.Ytdkmkcgghhncdaa.Plain
open Go.RowKit Go.Proofs.YtdkmkcgghhncdaaW.PrintWords Go.Proofs.YtdkmkcgghhncdaaW.PrintLast
set_option linter.unusedVariables false
open Q

theorem eqIntS_ev (l : List Int) (h : l.length ≤ 9223372036854775807) : Ev (fun k => laws_eqIntS.f k l l) true := by
  refine Ev.congr (f := fun k => laws_eqIntS.l0 k l l 0) (fun k => ?_) ?_
  · unfold laws_eqIntS.f
    rw [if_pos rfl]
  · exact ev_up (n := l.length) (loop := fun k i => laws_eqIntS.l0 k l l (i : Int)) (r := fun _ => true)
      (Ev.step (f := fun _ => some true) (fun k => by simp [laws_eqIntS.l0]) (Ev.now true))
      (fun i hi ih => Ev.step (f := fun k => laws_eqIntS.l0 k l l ((i + 1 : Nat) : Int)) (fun k => by
        simp only [laws_eqIntS.l0]
        rw [if_pos (by omega), if_pos (by omega), if_pos (by omega), if_pos trivial, succ_cast hi h]) ih) 0 (Nat.zero_le _)

theorem l1In_eq (a b c : Int) : spec_l1In.f a b c = some (decide (b ≤ a) && decide (a ≤ c)) := by
  unfold spec_l1In.f
  by_cases h : b ≤ a <;> simp [h]

theorem within_eq (a b c : Int) : impl_within.f a b c = some (decide (b ≤ a) && decide (a ≤ c)) := by
  unfold impl_within.f
  by_cases h : b ≤ a <;> simp [h]

end Go.Proofs.Ytdkmkcgghhncdaa.Plain

/- Is a number in a list: the reference's way. No condition but a length that fits. -/
namespace Go.Proofs.Ytdkmkcgghhncdaa.Plain
open Go.RowKit Go.Proofs.YtdkmkcgghhncdaaW.PrintWords Go.Proofs.YtdkmkcgghhncdaaW.PrintLast
set_option linter.unusedVariables false
open Q

theorem l1Has_ev (l : List Int) (a : Int) (h : l.length ≤ 9223372036854775807) : Ev (fun k => spec_l1Has.f k l a) (l.contains a) := by
  have q := ev_up (n := l.length) (loop := fun k i => spec_l1Has.l0 k a l (l.length : Int) (i : Int)) (r := fun i => (l.drop i).contains a)
    (Ev.step (f := fun _ => some false) (fun k => by simp [spec_l1Has.l0]) (by simpa using Ev.now false))
    (fun i hi ih => by
      rw [List.drop_eq_getElem_cons hi, List.contains_cons]
      by_cases e : l[i] = a
      · refine Ev.step (f := fun _ => some true) (fun k => ?_) (by rw [e]; simpa using Ev.now true)
        simp only [spec_l1Has.l0]
        rw [if_pos (by omega), if_pos (by omega), if_pos (by omega), rd_at hi, if_pos e]
      · refine Ev.step (f := fun k => spec_l1Has.l0 k a l (l.length : Int) ((i + 1 : Nat) : Int)) (fun k => ?_) ?_
        · simp only [spec_l1Has.l0]
          rw [if_pos (by omega), if_pos (by omega), if_pos (by omega), rd_at hi, if_neg e, succ_cast hi h]
        · have : (a == l[i]) = false := by simpa using fun q => e q.symm
          rw [this, Bool.false_or]; exact ih) 0 (Nat.zero_le _)
  simpa [spec_l1Has.f] using q
end Go.Proofs.Ytdkmkcgghhncdaa.Plain

/- slices.Index and slices.Contains over whole numbers. No condition but a length that fits. -/
namespace Go.Proofs.Ytdkmkcgghhncdaa.Plain
open Go.RowKit Go.Proofs.YtdkmkcgghhncdaaW.PrintWords Go.Proofs.YtdkmkcgghhncdaaW.PrintLast
set_option linter.unusedVariables false
open Q

/-- The first place of a number, -1 if there is none. -/
def idxI : List Int → Int → Int
  | [], _ => -1
  | x :: t, a => if a = x then 0 else if idxI t a < 0 then -1 else idxI t a + 1

theorem idxI_range : ∀ (l : List Int) (a : Int), -1 ≤ idxI l a ∧ idxI l a < l.length
  | [], _ => by simp [idxI]
  | x :: t, a => by
    have := idxI_range t a
    have hl : ((x :: t).length : Int) = t.length + 1 := by simp
    unfold idxI
    split
    · omega
    · split <;> omega

theorem idxI_mem : ∀ (l : List Int) (a : Int), decide (idxI l a ≥ 0) = l.contains a
  | [], a => by simp [idxI]
  | x :: t, a => by
    have ih := idxI_mem t a
    have hr := idxI_range t a
    rw [List.contains_cons]
    unfold idxI
    by_cases e : a = x
    · rw [if_pos e, e]; simp
    · have e2 : (a == x) = false := by simpa using e
      rw [if_neg e, e2, Bool.false_or, ← ih]
      by_cases h : idxI t a < 0
      · rw [if_pos h]
        have : ¬ (idxI t a ≥ 0) := by omega
        simp [this]
      · rw [if_neg h]
        have h1 : idxI t a ≥ 0 := by omega
        have h2 : idxI t a + 1 ≥ 0 := by omega
        simp [h1, h2]

theorem index_ev (l : List Int) (a : Int) (h : l.length ≤ 9223372036854775807) : Ev (fun k => slices_Index_int_int.f k l a) (idxI l a) := by
  have q := ev_up (n := l.length) (loop := fun k i => slices_Index_int_int.l0 k l a (l.length : Int) (i : Int)) (r := fun i => if idxI (l.drop i) a < 0 then -1 else (i : Int) + idxI (l.drop i) a)
    (Ev.step (f := fun _ => some (-1)) (fun k => by simp [slices_Index_int_int.l0]) (by simpa [idxI] using Ev.now (-1 : Int)))
    (fun i hi ih => by
      rw [List.drop_eq_getElem_cons hi]
      by_cases e : a = l[i]
      · refine Ev.step (f := fun _ => some (i : Int)) (fun k => ?_) ?_
        · simp only [slices_Index_int_int.l0]
          rw [if_pos (by omega), if_pos (by omega), if_pos (by omega), rd_at hi, if_pos e]
        · have : idxI (l[i] :: l.drop (i + 1)) a = 0 := by unfold idxI; rw [if_pos e]
          rw [this]; simpa using Ev.now (i : Int)
      · refine Ev.step (f := fun k => slices_Index_int_int.l0 k l a (l.length : Int) ((i + 1 : Nat) : Int)) (fun k => ?_) ?_
        · simp only [slices_Index_int_int.l0]
          rw [if_pos (by omega), if_pos (by omega), if_pos (by omega), rd_at hi, if_neg e, succ_cast hi h]
        · have : idxI (l[i] :: l.drop (i + 1)) a = if idxI (l.drop (i + 1)) a < 0 then -1 else idxI (l.drop (i + 1)) a + 1 := by rw [idxI]; rw [if_neg e]
          rw [this]
          by_cases h2 : idxI (l.drop (i + 1)) a < 0
          · rw [if_pos h2] at ih ⊢; rw [if_pos (by omega)]; exact ih
          · rw [if_neg h2] at ih ⊢; rw [if_neg (by omega)]
            have e3 : ((i + 1 : Nat) : Int) + idxI (l.drop (i + 1)) a = (i : Int) + (idxI (l.drop (i + 1)) a + 1) := by omega
            rw [← e3]; exact ih) 0 (Nat.zero_le _)
  have e : (if idxI (l.drop 0) a < 0 then -1 else ((0 : Nat) : Int) + idxI (l.drop 0) a) = idxI l a := by
    have := idxI_range l a
    rw [List.drop_zero]
    split <;> omega
  rw [e] at q
  exact q

theorem contains_ev (l : List Int) (a : Int) (h : l.length ≤ 9223372036854775807) : Ev (fun k => slices_Contains_int_int.f k l a) (l.contains a) := by
  unfold slices_Contains_int_int.f
  refine Ev.bind (index_ev l a h) ?_
  rw [idxI_mem]; exact Ev.now _
end Go.Proofs.Ytdkmkcgghhncdaa.Plain

/- Parties: both sides' tests, and the law's own functions over parties. No condition but lengths that fit. -/
namespace Go.Proofs.Ytdkmkcgghhncdaa.Plain
open Go.RowKit Go.Proofs.YtdkmkcgghhncdaaW.PrintWords Go.Proofs.YtdkmkcgghhncdaaW.PrintLast
set_option linter.unusedVariables false
open Q

abbrev Pr := S56
abbrev rdP (l : List Pr) (i : Int) : Pr := rd_T56 l i

theorem rdP_at {l : List Pr} {i : Nat} (h : i < l.length) : rd_T56 l (i : Int) = l[i] := by
  simp [rd_T56, List.getD, h]

def pairOk (n : Int) (x : Pr) : Bool := decide (0 ≤ x.f0) && (decide (x.f0 < x.f1) && decide (x.f1 < n))
def lessB (x y : Pr) : Bool := decide (x.f0 < y.f0) || (decide (x.f0 = y.f0) && decide (x.f1 < y.f1))
/-- The pair at an index is right, and comes behind the one before. -/
def okAt (n : Int) (l : List Pr) (i : Nat) : Bool := pairOk n (rdP l i) && (decide (i = 0) || lessB (rdP l ((i : Int) - 1)) (rdP l i))
def party (n : Int) (l : List Pr) : Bool := (decide (0 ≤ n) && decide (n ≤ 12)) && (List.range l.length).all (okAt n l)

theorem paLess_eq (x y : Pr) : spec_paLess.f x.f0 x.f1 y.f0 y.f1 = some (lessB x y) := by
  unfold spec_paLess.f lessB
  by_cases h : x.f0 < y.f0
  · rw [if_pos h, decide_eq_true h]; rfl
  · rw [if_neg h, decide_eq_false h]
    by_cases h2 : x.f0 = y.f0
    · rw [if_pos h2, decide_eq_true h2]; simp
    · rw [if_neg h2, decide_eq_false h2]; simp

/-- Compared as the library compares whole numbers. -/
def cmpI (a b : Int) : Int := if a < b then -1 else if a > b then 1 else 0
theorem compare_eq (a b : Int) : cmp_Compare_int.f a b = some (cmpI a b) := by
  unfold cmp_Compare_int.f cmp_isNaN_int.f cmpI
  simp
  by_cases h : a < b
  · simp [h]
  · by_cases h2 : b < a <;> simp [h, h2]

theorem or_two (a b : Int) : Ev (fun k => cmp_Or_int.f k [a, b]) (if a = 0 then b else a) := by
  refine Ev.of (fun k => cmp_Or_int.mono [a, b] k) (k := 3) ?_
  by_cases h : a = 0
  · by_cases h2 : b = 0
    · simp [cmp_Or_int.f, cmp_Or_int.l0, rd, h, h2, wrap64]
    · simp [cmp_Or_int.f, cmp_Or_int.l0, rd, h, h2, wrap64]
  · simp [cmp_Or_int.f, cmp_Or_int.l0, rd, h]

theorem comparePairs_ev (x y : Pr) : Ev (fun k => impl_comparePairs.f k x.f0 x.f1 y.f0 y.f1) (if cmpI x.f0 y.f0 = 0 then cmpI x.f1 y.f1 else cmpI x.f0 y.f0) := by
  unfold impl_comparePairs.f
  refine ev_bind0 (compare_eq _ _) ?_
  refine ev_bind0 (compare_eq _ _) ?_
  exact Ev.bind (f := fun _ t => some t) (or_two _ _) (Ev.now _)

theorem compare_less (x y : Pr) : ((if cmpI x.f0 y.f0 = 0 then cmpI x.f1 y.f1 else cmpI x.f0 y.f0) ≥ 0) ↔ lessB x y = false := by
  unfold cmpI lessB
  by_cases h1 : x.f0 < y.f0
  · simp [h1]
  · by_cases h2 : y.f0 < x.f0
    · have : ¬ x.f0 = y.f0 := by omega
      simp [h1, h2, this]
    · have e : x.f0 = y.f0 := by omega
      by_cases h3 : x.f1 < y.f1
      · simp [e, h3]
      · by_cases h4 : y.f1 < x.f1 <;> simp [e, h3, h4]

theorem areCrowd_eq (n : Int) : impl_areCrowd.f n = some (decide (0 ≤ n) && decide (n ≤ 12)) := by
  unfold impl_areCrowd.f
  rw [within_eq]; rfl

theorem isParty_ev (n : Int) (l : List Pr) (h : l.length ≤ 9223372036854775807) : Ev (fun k => impl_IsParty.f k n l) (party n l) := by
  have q := ev_up (n := l.length) (loop := fun k i => impl_IsParty.l0 k l (l.length : Int) (i : Int) n l) (r := fun i => (decide (0 ≤ n) && decide (n ≤ 12)) && ((List.range l.length).drop i).all (okAt n l))
    (Ev.step (f := fun _ => some (decide (0 ≤ n) && decide (n ≤ 12))) (fun k => by
        simp only [impl_IsParty.l0]
        rw [if_neg (by omega), areCrowd_eq]; rfl) (by rw [all_end _ (Nat.le_refl _), Bool.and_true]; exact Ev.now _))
    (fun i hi ih => by
      rw [all_step (okAt n l) hi]
      have e0 : okAt n l i = (pairOk n l[i] && (decide (i = 0) || lessB (rdP l ((i : Int) - 1)) l[i])) := by
        unfold okAt rdP; rw [rdP_at hi]
      by_cases a1 : l[i].f0 < 0
      · have e : okAt n l i = false := by rw [e0]; simp [pairOk]; omega
        rw [e]
        refine Ev.step (f := fun _ => some false) (fun k => ?_) (by simpa using Ev.now false)
        simp only [impl_IsParty.l0]
        rw [if_pos (by omega), if_pos (by omega), if_pos (by omega), rdP_at hi, if_pos a1]
      by_cases a2 : l[i].f0 ≥ l[i].f1
      · have e : okAt n l i = false := by rw [e0]; simp [pairOk]; omega
        rw [e]
        refine Ev.step (f := fun _ => some false) (fun k => ?_) (by simpa using Ev.now false)
        simp only [impl_IsParty.l0]
        rw [if_pos (by omega), if_pos (by omega), if_pos (by omega), rdP_at hi, if_neg a1, if_pos a2]
      by_cases a3 : l[i].f1 ≥ n
      · have e : okAt n l i = false := by rw [e0]; simp [pairOk]; omega
        rw [e]
        refine Ev.step (f := fun _ => some false) (fun k => ?_) (by simpa using Ev.now false)
        simp only [impl_IsParty.l0]
        rw [if_pos (by omega), if_pos (by omega), if_pos (by omega), rdP_at hi, if_neg a1, if_neg a2, if_pos a3]
      have ep : pairOk n l[i] = true := by simp [pairOk]; omega
      by_cases a4 : i = 0
      · have e : okAt n l i = true := by rw [e0, ep, decide_eq_true a4]; simp
        rw [e]
        refine Ev.step (f := fun k => impl_IsParty.l0 k l (l.length : Int) ((i + 1 : Nat) : Int) n l) (fun k => ?_) (by simpa using ih)
        simp only [impl_IsParty.l0]
        rw [if_pos (by omega), if_pos (by omega), if_pos (by omega), rdP_at hi, if_neg a1, if_neg a2, if_neg a3, if_neg (by omega), succ_cast hi h]
      · have ew : wrap64 ((i : Int) - 1) = ((i - 1 : Nat) : Int) := by rw [wrap_id (by omega) (by omega)]; omega
        have ew2 : ((i : Int) - 1) = ((i - 1 : Nat) : Int) := by omega
        have e : okAt n l i = lessB l[i-1] l[i] := by
          rw [e0, ep, decide_eq_false a4, ew2]
          unfold rdP
          rw [rdP_at (by omega)]; simp
        rw [e]
        refine Ev.step (f := fun k => (impl_comparePairs.f k l[i-1].f0 l[i-1].f1 l[i].f0 l[i].f1).bind fun t => if t ≥ 0 then some false else impl_IsParty.l0 k l (l.length : Int) ((i + 1 : Nat) : Int) n l) (fun k => ?_) ?_
        · simp only [impl_IsParty.l0]
          rw [if_pos (by omega), if_pos (by omega), if_pos (by omega), rdP_at hi, if_neg a1, if_neg a2, if_neg a3, if_pos (by omega), if_pos (by omega), if_pos (by omega), ew, rdP_at (by omega : i - 1 < l.length), succ_cast hi h]
        · refine Ev.bind (comparePairs_ev _ _) ?_
          refine ev_if (fun b => ?_) (fun b => ?_)
          · rw [(compare_less _ _).mp b]; simpa using Ev.now false
          · have : lessB l[i-1] l[i] = true := by
              cases hb : lessB l[i-1] l[i] with
              | true => rfl
              | false => exact absurd ((compare_less _ _).mpr hb) b
            rw [this]; simpa using ih) 0 (Nat.zero_le _)
  simpa [impl_IsParty.f, party] using q

/-! What a party is, in words of numbers. -/
theorem party_of {n : Int} {l : List Pr} (h : party n l = true) : 0 ≤ n ∧ n ≤ 12 ∧ (∀ i, (hi : i < l.length) → 0 ≤ l[i].f0 ∧ l[i].f0 < l[i].f1 ∧ l[i].f1 < n) ∧ (∀ i, (hi : i + 1 < l.length) → lessB l[i] l[i+1] = true) := by
  unfold party at h
  simp only [Bool.and_eq_true, decide_eq_true_eq, List.all_eq_true, List.mem_range] at h
  obtain ⟨⟨h1, h2⟩, h3⟩ := h
  refine ⟨h1, h2, fun i hi => ?_, fun i hi => ?_⟩
  · have q := h3 i hi
    unfold okAt rdP at q
    rw [rdP_at hi] at q
    simp only [Bool.and_eq_true, pairOk, decide_eq_true_eq] at q
    exact q.1
  · have q := h3 (i + 1) hi
    unfold okAt rdP at q
    rw [show (((i + 1 : Nat) : Int) - 1) = ((i : Nat) : Int) by omega, rdP_at hi, rdP_at (by omega : i < l.length)] at q
    simpa using (Bool.and_eq_true _ _ ▸ q).2
end Go.Proofs.Ytdkmkcgghhncdaa.Plain

/- A party as a relation between people; sets of people as numbers; how many hold. Plain lemmas. No condition. -/
namespace Go.Proofs.Ytdkmkcgghhncdaa.Plain
open Go.RowKit Go.Proofs.YtdkmkcgghhncdaaW.PrintWords Go.Proofs.YtdkmkcgghhncdaaW.PrintLast
set_option linter.unusedVariables false
open Q

/-- Are two people friends. -/
def adj (l : List Pr) (a b : Nat) : Bool := l.any fun x => (decide (x.f0 = (a : Int)) && decide (x.f1 = (b : Int))) || (decide (x.f0 = (b : Int)) && decide (x.f1 = (a : Int)))

theorem adj_nil (a b : Nat) : adj [] a b = false := rfl
theorem adj_snoc (l : List Pr) (x : Pr) (a b : Nat) : adj (l ++ [x]) a b = (adj l a b || ((decide (x.f0 = (a : Int)) && decide (x.f1 = (b : Int))) || (decide (x.f0 = (b : Int)) && decide (x.f1 = (a : Int))))) := by
  unfold adj
  rw [List.any_append]
  simp
/-- All pairs are right for n people. -/
def Right (n : Nat) (l : List Pr) : Prop := ∀ x ∈ l, 0 ≤ x.f0 ∧ x.f0 < x.f1 ∧ x.f1 < (n : Int)
theorem Right.take {n : Nat} {l : List Pr} (h : Right n l) (i : Nat) : Right n (l.take i) := fun x hx => h x (List.mem_of_mem_take hx)

theorem lessB_trans {x y z : Pr} (h1 : lessB x y = true) (h2 : lessB y z = true) : lessB x z = true := by
  unfold lessB at *
  simp only [Bool.or_eq_true, Bool.and_eq_true, decide_eq_true_eq] at *
  omega
theorem sorted_lt {l : List Pr} (h : ∀ i, (hi : i + 1 < l.length) → lessB l[i] l[i+1] = true) : ∀ d i, (hi : i + 1 + d < l.length) → lessB l[i] l[i + 1 + d] = true := by
  intro d
  induction d with
  | zero => intro i hi; exact h i hi
  | succ d ih =>
    intro i hi
    have q := ih i (by omega)
    have q2 := h (i + 1 + d) (by omega)
    exact lessB_trans q q2

/-- What a right party tells: people from 0 to 12, right pairs, in order. -/
theorem party_right {n : Int} {l : List Pr} (h : party n l = true) : ∃ m : Nat, n = (m : Int) ∧ m ≤ 12 ∧ Right m l ∧ (∀ i j, (hj : j < l.length) → (hij : i < j) → lessB l[i] l[j] = true) := by
  obtain ⟨h1, h2, h3, h4⟩ := party_of h
  refine ⟨n.toNat, by omega, by omega, fun x hx => ?_, fun i j hj hij => ?_⟩
  · obtain ⟨i, hi, rfl⟩ := List.getElem_of_mem hx
    have := h3 i hi
    omega
  · have := sorted_lt h4 (j - i - 1) i (by omega)
    have e : i + 1 + (j - i - 1) = j := by omega
    simpa only [e] using this

/-! Sets of people as numbers. -/
def maskOf (f : Nat → Bool) : Nat → Nat
  | 0 => 0
  | n + 1 => maskOf f n + (if f n = true then 2 ^ n else 0)

theorem maskOf_lt (f : Nat → Bool) : ∀ n, maskOf f n < 2 ^ n
  | 0 => by simp [maskOf]
  | n + 1 => by
    have := maskOf_lt f n
    unfold maskOf
    rw [Nat.pow_succ]
    split <;> omega

theorem maskOf_bit (f : Nat → Bool) : ∀ n b, (maskOf f n).testBit b = (decide (b < n) && f b)
  | 0, b => by simp [maskOf]
  | n + 1, b => by
    have ih := maskOf_bit f n b
    have hlt := maskOf_lt f n
    unfold maskOf
    by_cases h : f n = true
    · rw [if_pos h, Nat.add_comm]
      rcases Nat.lt_trichotomy b n with hb | rfl | hb
      · rw [Nat.testBit_two_pow_add_gt hb, ih]
        simp [hb, Nat.lt_succ_of_lt hb]
      · rw [Nat.testBit_two_pow_add_eq, Nat.testBit_lt_two_pow hlt]
        simp [h]
      · have h1 : 2 ^ (n + 1) ≤ 2 ^ b := Nat.pow_le_pow_right (by omega) (by omega)
        rw [Nat.pow_succ] at h1
        rw [Nat.testBit_lt_two_pow (by omega)]
        simp; omega
    · rw [if_neg h, Nat.add_zero, ih]
      by_cases e : b = n
      · subst e
        simp [Bool.eq_false_iff.mpr h]
      · have : decide (b < n + 1) = decide (b < n) := by
          apply decide_eq_decide.mpr; omega
        rw [this]

theorem maskOf_congr {f g : Nat → Bool} : ∀ {n}, (∀ b, b < n → f b = g b) → maskOf f n = maskOf g n
  | 0, _ => rfl
  | n + 1, h => by
    unfold maskOf
    rw [maskOf_congr (n := n) (fun b hb => h b (by omega)), h n (by omega)]

theorem mask_or (f g : Nat → Bool) (n : Nat) : maskOf f n ||| maskOf g n = maskOf (fun b => f b || g b) n := by
  apply Nat.eq_of_testBit_eq
  intro b
  rw [Nat.testBit_or, maskOf_bit, maskOf_bit, maskOf_bit]
  cases decide (b < n) <;> simp
theorem mask_one {n b : Nat} (h : b < n) : (2 ^ b : Nat) = maskOf (fun c => decide (c = b)) n := by
  apply Nat.eq_of_testBit_eq
  intro c
  rw [Nat.testBit_two_pow, maskOf_bit]
  by_cases e : b = c
  · subst e; simp [h]
  · have : ¬ (c = b) := fun q => e q.symm
    simp [e, this]

/-! How many hold. -/
end Go.Proofs.Ytdkmkcgghhncdaa.Plain

/- The program's table of a party: for each person its friends, as the bits of a number. No condition but lengths that fit. -/
namespace Go.Proofs.Ytdkmkcgghhncdaa.Plain
open Go.RowKit Go.Proofs.YtdkmkcgghhncdaaW.PrintWords Go.Proofs.YtdkmkcgghhncdaaW.PrintLast
set_option linter.unusedVariables false
open Q

theorem wraps_u16 (n : Int) (h₀ : 0 ≤ n) (h₁ : n < 2 ^ 16) : IntKind.u16.wrap n = n := by
  have : IntKind.u16.wrap n = n % 65536 := by simp [IntKind.wrap, IntKind.bits, IntKind.signed]
  rw [this]; omega
theorem or16 {a b : Nat} (ha : a < 2 ^ 16) (hb : b < 2 ^ 16) : Go.bits .or .u16 (a : Int) (b : Int) = ((a ||| b : Nat) : Int) := (bits_nat .u16 16 (by decide) wraps_u16 a b ha hb).2
theorem and16 {a b : Nat} (ha : a < 2 ^ 16) (hb : b < 2 ^ 16) : Go.bits .and .u16 (a : Int) (b : Int) = ((a &&& b : Nat) : Int) := (bits_nat .u16 16 (by decide) wraps_u16 a b ha hb).1
theorem shl16 {b : Nat} (hb : b < 16) : shl .u16 1 (b : Int) = ((2 ^ b : Nat) : Int) := by
  unfold shl
  have h1 : min ((b : Int)).toNat IntKind.u16.bits = b := by
    rw [Int.toNat_natCast]
    exact Nat.min_eq_left (by show b ≤ 16; omega)
  rw [h1, Int.one_mul, wraps_u16]
  · simp
  · exact Int.pow_nonneg (by decide)
  · have : (2 : Nat) ^ b < 2 ^ 16 := Nat.pow_lt_pow_right (by omega) hb
    exact_mod_cast this

/-- The table of a relation of n people. -/
def tabF (n : Nat) (f : Nat → Nat → Bool) : List Int := (List.range n).map fun a => ((maskOf (f a) n : Nat) : Int)
theorem tabF_length (n : Nat) (f : Nat → Nat → Bool) : (tabF n f).length = n := by simp [tabF]
theorem tabF_get {n : Nat} {f : Nat → Nat → Bool} {a : Nat} (h : a < n) : rd (tabF n f) (a : Int) = ((maskOf (f a) n : Nat) : Int) := by
  rw [rd_at (by rw [tabF_length]; exact h)]
  simp [tabF]
theorem tabF_congr {n : Nat} {f g : Nat → Nat → Bool} (h : ∀ a b, a < n → b < n → f a b = g a b) : tabF n f = tabF n g := by
  unfold tabF
  apply List.map_congr_left
  intro a ha
  rw [maskOf_congr (fun b hb => h a b (by simpa using ha) hb)]
theorem mask16 {f : Nat → Bool} {n : Nat} (h : n ≤ 16) : maskOf f n < 2 ^ 16 := Nat.lt_of_lt_of_le (maskOf_lt f n) (Nat.pow_le_pow_right (by omega) h)

/-- The relation with two people made friends. -/
def withP (f : Nat → Nat → Bool) (a b : Nat) : Nat → Nat → Bool := fun c d => f c d || ((decide (c = a) && decide (d = b)) || (decide (c = b) && decide (d = a)))

/-- One pair put into the table, as both the loop and 'put' do it. -/
theorem tab_put {n : Nat} (hn : n ≤ 16) (f : Nat → Nat → Bool) {a b : Nat} (ha : a < n) (hb : b < n) (hab : a ≠ b) :
    ((tabF n f).set a (Go.bits .or .u16 (rd (tabF n f) (a : Int)) (shl .u16 1 (b : Int)))).set b
      (Go.bits .or .u16 (rd ((tabF n f).set a (Go.bits .or .u16 (rd (tabF n f) (a : Int)) (shl .u16 1 (b : Int)))) (b : Int)) (shl .u16 1 (a : Int))) = tabF n (withP f a b) := by
  have e1 : Go.bits .or .u16 (rd (tabF n f) (a : Int)) (shl .u16 1 (b : Int)) = ((maskOf (withP f a b a) n : Nat) : Int) := by
    rw [tabF_get ha, shl16 (by omega), or16 (mask16 hn) (Nat.pow_lt_pow_right (by omega) (by omega)), mask_one hb, mask_or]
    congr 1
    apply maskOf_congr
    intro c _
    unfold withP
    simp [hab]
  have e2 : rd ((tabF n f).set a (Go.bits .or .u16 (rd (tabF n f) (a : Int)) (shl .u16 1 (b : Int)))) (b : Int) = ((maskOf (f b) n : Nat) : Int) := by
    rw [rd_at (by rw [List.length_set, tabF_length]; exact hb), List.getElem_set_ne hab]
    simp [tabF]
  have e3 : Go.bits .or .u16 ((maskOf (f b) n : Nat) : Int) (shl .u16 1 (a : Int)) = ((maskOf (withP f a b b) n : Nat) : Int) := by
    rw [shl16 (by omega), or16 (mask16 hn) (Nat.pow_lt_pow_right (by omega) (by omega)), mask_one ha, mask_or]
    congr 1
    apply maskOf_congr
    intro c _
    unfold withP
    simp [show ¬ (b = a) from fun q => hab q.symm]
  rw [e2, e3, e1]
  apply List.ext_getElem
  · simp [tabF_length]
  · intro i h1 h2
    rw [tabF_length] at h2
    rw [List.getElem_set, List.getElem_set]
    by_cases i1 : b = i
    · subst i1
      rw [if_pos rfl]
      simp [tabF]
    · rw [if_neg i1]
      by_cases i2 : a = i
      · subst i2
        rw [if_pos rfl]
        simp [tabF]
      · rw [if_neg i2]
        simp only [tabF, List.getElem_map, List.getElem_range]
        congr 1
        apply maskOf_congr
        intro c _
        unfold withP
        simp [show ¬ (i = a) from fun q => i2 q.symm, show ¬ (i = b) from fun q => i1 q.symm]

theorem table_ev {n : Nat} {l : List Pr} (hn : n ≤ 12) (hr : Right n l) (h : l.length ≤ 9223372036854775807) : Ev (fun k => impl_Party_table.f k (n : Int) l) (tabF n (adj l)) := by
  refine Ev.congr (f := fun k => impl_Party_table.l0 k (List.replicate n 0) l (l.length : Int) 0) (fun k => ?_) ?_
  · unfold impl_Party_table.f
    rw [if_pos (by omega), if_pos (by omega), Int.toNat_natCast]
  · have q := ev_up (n := l.length) (loop := fun k i => impl_Party_table.l0 k (tabF n (adj (l.take i))) l (l.length : Int) (i : Int)) (r := fun _ => tabF n (adj l))
      (Ev.step (f := fun _ => some (tabF n (adj l))) (fun k => by simp [impl_Party_table.l0]) (Ev.now _))
      (fun i hi ih => by
        have r := hr _ (List.getElem_mem hi)
        have ea : ((l[i].f0.toNat : Nat) : Int) = l[i].f0 := by omega
        have eb : ((l[i].f1.toNat : Nat) : Int) = l[i].f1 := by omega
        have hput := tab_put (n := n) (by omega) (adj (l.take i)) (a := l[i].f0.toNat) (b := l[i].f1.toNat) (by omega) (by omega) (by omega)
        rw [ea, eb] at hput
        have hnext : tabF n (withP (adj (l.take i)) l[i].f0.toNat l[i].f1.toNat) = tabF n (adj (l.take (i + 1))) := by
          apply tabF_congr
          intro c d _ _
          rw [List.take_succ_eq_append_getElem hi, adj_snoc]
          unfold withP
          congr 1
          have k1 : decide (c = l[i].f0.toNat) = decide (l[i].f0 = (c : Int)) := by apply decide_eq_decide.mpr; omega
          have k2 : decide (d = l[i].f1.toNat) = decide (l[i].f1 = (d : Int)) := by apply decide_eq_decide.mpr; omega
          have k3 : decide (c = l[i].f1.toNat) = decide (l[i].f1 = (c : Int)) := by apply decide_eq_decide.mpr; omega
          have k4 : decide (d = l[i].f0.toNat) = decide (l[i].f0 = (d : Int)) := by apply decide_eq_decide.mpr; omega
          rw [k1, k2, k3, k4, Bool.and_comm (decide (l[i].f1 = (c : Int)))]
        rw [hnext] at hput
        refine Ev.step (f := fun k => impl_Party_table.l0 k (tabF n (adj (l.take (i + 1)))) l (l.length : Int) ((i + 1 : Nat) : Int)) (fun k => ?_) ih
        simp only [impl_Party_table.l0]
        rw [if_pos (by omega), if_pos (by omega), if_pos (by omega), rdP_at hi, if_pos (by omega), if_pos (by rw [tabF_length]; omega), if_pos (by omega), Option.bind_some, if_pos (by rw [tabF_length]; omega), hput, succ_cast hi h]) 0 (Nat.zero_le _)
    have e : tabF n (adj (l.take 0)) = List.replicate n 0 := by
      have hz : ∀ m, maskOf (fun _ => false) m = 0 := by
        intro m
        induction m with
        | zero => rfl
        | succ m ih => unfold maskOf; rw [ih]; simp
      have : tabF n (fun _ _ => false) = List.replicate n 0 := by
        unfold tabF
        rw [List.eq_replicate_iff]
        refine ⟨by simp, fun b hb => ?_⟩
        obtain ⟨a, _, rfl⟩ := List.mem_map.1 hb
        rw [hz]; rfl
      rw [← this]
      apply tabF_congr
      intro a b _ _
      rw [List.take_zero, adj_nil]
    rw [e] at q
    exact q
end Go.Proofs.Ytdkmkcgghhncdaa.Plain

/- The reference's table of a party: for each person, of each person, whether they are friends. No condition but lengths that fit. -/
namespace Go.Proofs.Ytdkmkcgghhncdaa.Plain
open Go.RowKit Go.Proofs.YtdkmkcgghhncdaaW.PrintWords Go.Proofs.YtdkmkcgghhncdaaW.PrintLast
set_option linter.unusedVariables false
open Q

theorem rdB_at {l : List (List Bool)} {i : Nat} (h : i < l.length) : rd_L4 l (i : Int) = l[i] := by
  simp [rd_L4, List.getD, h]
theorem rdOfB_at {l : List Bool} {i : Nat} (h : i < l.length) : rdOf false l (i : Int) = l[i] := by
  simp [rdOf, List.getD, h]

/-- The table of a relation of n people, as bools. -/
def rowB (n : Nat) (f : Nat → Bool) : List Bool := (List.range n).map f
def tabB (n : Nat) (f : Nat → Nat → Bool) : List (List Bool) := (List.range n).map fun a => rowB n (f a)
theorem rowB_length (n : Nat) (f : Nat → Bool) : (rowB n f).length = n := by simp [rowB]
theorem rowB_get {n : Nat} {f : Nat → Bool} {a : Nat} (h : a < (rowB n f).length) : (rowB n f)[a] = f a := by simp [rowB]
theorem tabB_length (n : Nat) (f : Nat → Nat → Bool) : (tabB n f).length = n := by simp [tabB]
theorem tabB_getElem {n : Nat} {f : Nat → Nat → Bool} {a : Nat} (h : a < (tabB n f).length) : (tabB n f)[a] = rowB n (f a) := by simp [tabB]
theorem tabB_get {n : Nat} {f : Nat → Nat → Bool} {a : Nat} (h : a < n) : rd_L4 (tabB n f) (a : Int) = rowB n (f a) := by
  rw [rdB_at (by rw [tabB_length]; exact h), tabB_getElem]
theorem rowB_congr {n : Nat} {f g : Nat → Bool} (h : ∀ b, b < n → f b = g b) : rowB n f = rowB n g := by
  unfold rowB
  apply List.map_congr_left
  intro b hb
  exact h b (by simpa using hb)
theorem tabB_congr {n : Nat} {f g : Nat → Nat → Bool} (h : ∀ a b, a < n → b < n → f a b = g a b) : tabB n f = tabB n g := by
  unfold tabB
  apply List.map_congr_left
  intro a ha
  exact rowB_congr (fun b hb => h a b (by simpa using ha) hb)
theorem rowB_set {n : Nat} {f : Nat → Bool} {b : Nat} (v : Bool) : (rowB n f).set b v = rowB n (fun c => if c = b then v else f c) := by
  apply List.ext_getElem
  · simp [rowB_length]
  · intro i h1 h2
    rw [List.getElem_set, rowB_get]
    by_cases e : b = i
    · subst e; rw [if_pos rfl, rowB_get, if_pos rfl]
    · rw [if_neg e, rowB_get, if_neg (fun q => e q.symm)]

/-- Two cells set, the one of both people's. -/
def setP (f : Nat → Nat → Bool) (a b : Nat) (v : Bool) : Nat → Nat → Bool := fun c d => if (c = a ∧ d = b) ∨ (c = b ∧ d = a) then v else f c d

theorem tabB_put {n : Nat} (f : Nat → Nat → Bool) {a b : Nat} (ha : a < n) (hb : b < n) (hab : a ≠ b) (v : Bool) :
    ((tabB n f).set a ((rd_L4 (tabB n f) (a : Int)).set b v)).set b ((rd_L4 ((tabB n f).set a ((rd_L4 (tabB n f) (a : Int)).set b v)) (b : Int)).set a v) = tabB n (setP f a b v) := by
  have e2 : rd_L4 ((tabB n f).set a ((rd_L4 (tabB n f) (a : Int)).set b v)) (b : Int) = rowB n (f b) := by
    rw [rdB_at (by rw [List.length_set, tabB_length]; exact hb), List.getElem_set_ne hab, tabB_getElem]
  rw [e2, tabB_get ha, rowB_set, rowB_set]
  apply List.ext_getElem
  · simp [tabB_length]
  · intro i h1 h2
    rw [tabB_length] at h2
    rw [List.getElem_set, List.getElem_set]
    by_cases i1 : b = i
    · subst i1
      rw [if_pos rfl, tabB_getElem]
      apply rowB_congr
      intro c _
      unfold setP
      simp [show ¬ (b = a) from fun q => hab q.symm]
    · rw [if_neg i1]
      by_cases i2 : a = i
      · subst i2
        rw [if_pos rfl, tabB_getElem]
        apply rowB_congr
        intro c _
        unfold setP
        simp [hab]
      · rw [if_neg i2, tabB_getElem, tabB_getElem]
        apply rowB_congr
        intro c _
        unfold setP
        simp [show ¬ (i = a) from fun q => i2 q.symm, show ¬ (i = b) from fun q => i1 q.symm]

theorem setP_true (f : Nat → Nat → Bool) (a b c d : Nat) : setP f a b true c d = withP f a b c d := by
  unfold setP withP
  by_cases h : (c = a ∧ d = b) ∨ (c = b ∧ d = a)
  · rw [if_pos h]
    rcases h with ⟨rfl, rfl⟩ | ⟨rfl, rfl⟩ <;> simp
  · rw [if_neg h]
    have : ((decide (c = a) && decide (d = b)) || (decide (c = b) && decide (d = a))) = false := by
      rw [Bool.eq_false_iff]
      intro q
      exact h (by simpa using q)
    rw [this, Bool.or_false]

theorem adj_next {n : Nat} {l : List Pr} (hr : Right n l) {i : Nat} (hi : i < l.length) (c d : Nat) : withP (adj (l.take i)) l[i].f0.toNat l[i].f1.toNat c d = adj (l.take (i + 1)) c d := by
  have r := hr _ (List.getElem_mem hi)
  rw [List.take_succ_eq_append_getElem hi, adj_snoc]
  unfold withP
  congr 1
  have k1 : decide (c = l[i].f0.toNat) = decide (l[i].f0 = (c : Int)) := by apply decide_eq_decide.mpr; omega
  have k2 : decide (d = l[i].f1.toNat) = decide (l[i].f1 = (d : Int)) := by apply decide_eq_decide.mpr; omega
  have k3 : decide (c = l[i].f1.toNat) = decide (l[i].f1 = (c : Int)) := by apply decide_eq_decide.mpr; omega
  have k4 : decide (d = l[i].f0.toNat) = decide (l[i].f0 = (d : Int)) := by apply decide_eq_decide.mpr; omega
  rw [k1, k2, k3, k4, Bool.and_comm (decide (l[i].f1 = (c : Int)))]

theorem paTable_ev {n : Nat} {l : List Pr} (hn : n ≤ 12) (hr : Right n l) (h : l.length ≤ 9223372036854775807) : Ev (fun k => spec_paTable.f k (n : Int) l) (tabB n (adj l)) := by
  have q1 := ev_up (n := l.length) (loop := fun k i => spec_paTable.l1 k (tabB n (adj (l.take i))) l (l.length : Int) (i : Int)) (r := fun _ => tabB n (adj l))
    (Ev.step (f := fun _ => some (tabB n (adj l))) (fun k => by simp [spec_paTable.l1]) (Ev.now _))
    (fun i hi ih => by
      have r := hr _ (List.getElem_mem hi)
      have ea : ((l[i].f0.toNat : Nat) : Int) = l[i].f0 := by omega
      have eb : ((l[i].f1.toNat : Nat) : Int) = l[i].f1 := by omega
      have hput := tabB_put (n := n) (adj (l.take i)) (a := l[i].f0.toNat) (b := l[i].f1.toNat) (by omega) (by omega) (by omega) true
      have hnext : tabB n (setP (adj (l.take i)) l[i].f0.toNat l[i].f1.toNat true) = tabB n (adj (l.take (i + 1))) :=
        tabB_congr (fun c d _ _ => by rw [setP_true, adj_next hr hi])
      rw [hnext] at hput
      have la : (rd_L4 (tabB n (adj (l.take i))) l[i].f0).length = n := by
        rw [← ea, tabB_get (by omega), rowB_length]
      have lb : (rd_L4 ((tabB n (adj (l.take i))).set l[i].f0.toNat ((rd_L4 (tabB n (adj (l.take i))) l[i].f0).set l[i].f1.toNat true)) l[i].f1).length = n := by
        rw [← eb, rdB_at (by rw [List.length_set, tabB_length]; omega), List.getElem_set_ne (by omega), tabB_getElem, rowB_length]
      rw [ea, eb] at hput
      refine Ev.step (f := fun k => spec_paTable.l1 k (tabB n (adj (l.take (i + 1)))) l (l.length : Int) ((i + 1 : Nat) : Int)) (fun k => ?_) ih
      simp only [spec_paTable.l1]
      rw [if_pos (by omega), if_pos (by omega), if_pos (by omega), rdP_at hi, if_pos (by omega), if_pos (by rw [tabB_length]; omega), if_pos (by omega), if_pos (by rw [la]; omega), Option.bind_some, if_pos (by rw [tabB_length]; omega), if_pos (by rw [lb]; omega), hput, succ_cast hi h]) 0 (Nat.zero_le _)
  have e0 : tabB n (adj (l.take 0)) = List.replicate n (List.replicate n false) := by
    unfold tabB
    rw [List.eq_replicate_iff]
    refine ⟨by simp, fun b hb => ?_⟩
    obtain ⟨a, _, rfl⟩ := List.mem_map.1 hb
    unfold rowB
    rw [List.eq_replicate_iff]
    refine ⟨by simp, fun c hc => ?_⟩
    obtain ⟨d, _, rfl⟩ := List.mem_map.1 hc
    rw [List.take_zero, adj_nil]
  rw [e0] at q1
  have q0 := ev_up (n := n) (loop := fun k i => spec_paTable.l0 k (List.replicate i (List.replicate n false)) (i : Int) (n : Int) l) (r := fun _ => tabB n (adj l))
    (Ev.step (f := fun k => spec_paTable.l1 k (List.replicate n (List.replicate n false)) l (l.length : Int) 0) (fun k => by
      simp only [spec_paTable.l0]
      rw [if_neg (by omega)]) q1)
    (fun i hi ih => by
      refine Ev.step (f := fun k => spec_paTable.l0 k (List.replicate (i + 1) (List.replicate n false)) ((i + 1 : Nat) : Int) (n : Int) l) (fun k => ?_) ih
      simp only [spec_paTable.l0]
      rw [if_pos (by omega), if_pos (by omega), if_pos (by omega), if_pos (by simp; omega), Int.toNat_natCast, succ_cast hi (by omega), ← List.replicate_succ']) 0 (Nat.zero_le _)
  exact q0
end Go.Proofs.Ytdkmkcgghhncdaa.Plain

/- The reference's test of a party. No condition but a length that fits. -/
namespace Go.Proofs.Ytdkmkcgghhncdaa.Plain
open Go.RowKit Go.Proofs.YtdkmkcgghhncdaaW.PrintWords Go.Proofs.YtdkmkcgghhncdaaW.PrintLast
set_option linter.unusedVariables false
open Q

/-- All pairs of n people. -/
def pairsOf (n : Nat) : List (Nat × Nat) := (List.range n).flatMap fun a => ((List.range n).filter fun b => decide (a < b)).map fun b => (a, b)

theorem pairsOf_length : ∀ n : Fin 13, (((pairsOf n.val).length : Nat) : Int) = (n.val : Int) * ((n.val : Int) - 1) / 2 := by decide +kernel

theorem mem_pairsOf {n a b : Nat} (h : a < b) (hb : b < n) : (a, b) ∈ pairsOf n := by
  unfold pairsOf
  rw [List.mem_flatMap]
  exact ⟨a, List.mem_range.mpr (by omega), List.mem_map.mpr ⟨b, List.mem_filter.mpr ⟨List.mem_range.mpr hb, by simpa using h⟩, rfl⟩⟩

/-- There are no more pairs in a party than pairs of its people. -/
theorem party_len {n : Nat} {l : List Pr} (hn : n ≤ 12) (hr : Right n l) (hs : ∀ i j, (hj : j < l.length) → (hij : i < j) → lessB l[i] l[j] = true) : (l.length : Int) ≤ (n : Int) * ((n : Int) - 1) / 2 := by
  have hnd : (l.map fun x => (x.f0.toNat, x.f1.toNat)).Nodup := by
    rw [List.nodup_iff_pairwise_ne, List.pairwise_iff_getElem]
    intro i j hi hj hij e
    simp only [List.length_map] at hi hj
    simp only [List.getElem_map, Prod.mk.injEq] at e
    have s := hs i j hj hij
    have r1 := hr _ (List.getElem_mem hi)
    have r2 := hr _ (List.getElem_mem hj)
    unfold lessB at s
    simp only [Bool.or_eq_true, Bool.and_eq_true, decide_eq_true_eq] at s
    omega
  have hsub : (l.map fun x => (x.f0.toNat, x.f1.toNat)) ⊆ pairsOf n := by
    intro p hp
    obtain ⟨x, hx, rfl⟩ := List.mem_map.1 hp
    have := hr x hx
    exact mem_pairsOf (by omega) (by omega)
  have h1 := List.Nodup.length_le_of_subset hnd hsub
  rw [List.length_map] at h1
  have h2 := pairsOf_length ⟨n, by omega⟩
  simp only [] at h2
  omega

theorem bound_eq {n : Int} (h0 : 0 ≤ n) (h1 : n ≤ 12) : wrap64 (Int.tdiv (wrap64 (n * (wrap64 (n - 1)))) 2) = n * (n - 1) / 2 := by
  have : n = 0 ∨ n = 1 ∨ n = 2 ∨ n = 3 ∨ n = 4 ∨ n = 5 ∨ n = 6 ∨ n = 7 ∨ n = 8 ∨ n = 9 ∨ n = 10 ∨ n = 11 ∨ n = 12 := by omega
  rcases this with rfl | rfl | rfl | rfl | rfl | rfl | rfl | rfl | rfl | rfl | rfl | rfl | rfl <;> decide +kernel

theorem paPeople_eq (n : Int) : spec_paPeople.f n = some (decide (0 ≤ n) && decide (n ≤ 12)) := by
  unfold spec_paPeople.f
  rw [l1In_eq]; rfl

theorem paGood_l0 (n : Int) (l : List Pr) (h0 : 0 ≤ n) (h1 : n ≤ 12) (h : l.length ≤ 9223372036854775807) : Ev (fun k => spec_paGood.l0 k l (l.length : Int) 0 n l) ((List.range l.length).all (okAt n l)) := by
  have q := ev_up (n := l.length) (loop := fun k i => spec_paGood.l0 k l (l.length : Int) (i : Int) n l) (r := fun i => ((List.range l.length).drop i).all (okAt n l))
    (Ev.step (f := fun _ => some true) (fun k => by simp only [spec_paGood.l0]; rw [if_neg (by omega)]) (by rw [all_end _ (Nat.le_refl _)]; exact Ev.now _))
    (fun i hi ih => by
      rw [all_step (okAt n l) hi]
      have e0 : okAt n l i = (pairOk n l[i] && (decide (i = 0) || lessB (rdP l ((i : Int) - 1)) l[i])) := by
        unfold okAt rdP; rw [rdP_at hi]
      have wn : wrap64 (n - 1) = n - 1 := wrap_id (by omega) (by omega)
      by_cases a1 : 0 ≤ l[i].f0 ∧ l[i].f0 ≤ n - 1
      · have w1 : wrap64 (l[i].f0 + 1) = l[i].f0 + 1 := wrap_id (by omega) (by omega)
        have b1 : (decide (0 ≤ l[i].f0) && decide (l[i].f0 ≤ n - 1)) = true := by simpa using a1
        by_cases a2 : l[i].f0 + 1 ≤ l[i].f1 ∧ l[i].f1 ≤ n - 1
        · have b2 : (decide (l[i].f0 + 1 ≤ l[i].f1) && decide (l[i].f1 ≤ n - 1)) = true := by simpa using a2
          have ep : pairOk n l[i] = true := by simp [pairOk]; omega
          by_cases a4 : i = 0
          · have e : okAt n l i = true := by rw [e0, ep, decide_eq_true a4]; simp
            rw [e]
            refine Ev.step (f := fun k => spec_paGood.l0 k l (l.length : Int) ((i + 1 : Nat) : Int) n l) (fun k => ?_) (by simpa using ih)
            simp only [spec_paGood.l0]
            rw [if_pos (by omega), if_pos (by omega), if_pos (by omega), rdP_at hi, wn, l1In_eq, b1, Option.bind_some, if_pos rfl, w1, l1In_eq, b2, Option.bind_some, if_pos rfl, if_neg (by omega), succ_cast hi h]
          · have ew : wrap64 ((i : Int) - 1) = ((i - 1 : Nat) : Int) := pred_cast (by omega) (by omega)
            have ew2 : ((i : Int) - 1) = ((i - 1 : Nat) : Int) := by omega
            have e : okAt n l i = lessB l[i-1] l[i] := by
              rw [e0, ep, decide_eq_false a4, ew2]
              unfold rdP
              rw [rdP_at (by omega)]; simp
            rw [e]
            refine Ev.step (f := fun k => if lessB l[i-1] l[i] = true then spec_paGood.l0 k l (l.length : Int) ((i + 1 : Nat) : Int) n l else some false) (fun k => ?_) ?_
            · simp only [spec_paGood.l0]
              rw [if_pos (by omega), if_pos (by omega), if_pos (by omega), rdP_at hi, wn, l1In_eq, b1, Option.bind_some, if_pos rfl, w1, l1In_eq, b2, Option.bind_some, if_pos rfl, if_pos (by omega), ew, if_pos (by omega), if_pos (by omega), rdP_at (by omega : i - 1 < l.length), paLess_eq, Option.bind_some, succ_cast hi h]
            · cases hb : lessB l[i-1] l[i] with
              | true => exact ev_if (fun _ => by simpa using ih) (fun h => absurd rfl h)
              | false => exact ev_some (fun _ => by simp)
        · have b2 : (decide (l[i].f0 + 1 ≤ l[i].f1) && decide (l[i].f1 ≤ n - 1)) = false := by
            rw [Bool.eq_false_iff]; intro q; exact a2 (by simpa using q)
          have e : okAt n l i = false := by rw [e0]; simp [pairOk]; omega
          rw [e]
          refine Ev.step (f := fun _ => some false) (fun k => ?_) (by simpa using Ev.now false)
          simp only [spec_paGood.l0]
          rw [if_pos (by omega), if_pos (by omega), if_pos (by omega), rdP_at hi, wn, l1In_eq, b1, Option.bind_some, if_pos rfl, w1, l1In_eq, b2, Option.bind_some, if_neg (by simp)]
      · have b1 : (decide (0 ≤ l[i].f0) && decide (l[i].f0 ≤ n - 1)) = false := by
          rw [Bool.eq_false_iff]; intro q; exact a1 (by simpa using q)
        have e : okAt n l i = false := by rw [e0]; simp [pairOk]; omega
        rw [e]
        refine Ev.step (f := fun _ => some false) (fun k => ?_) (by simpa using Ev.now false)
        simp only [spec_paGood.l0]
        rw [if_pos (by omega), if_pos (by omega), if_pos (by omega), rdP_at hi, wn, l1In_eq, b1, Option.bind_some, if_neg (by simp)]) 0 (Nat.zero_le _)
  simpa using q

theorem paGood_ev (n : Int) (l : List Pr) (h : l.length ≤ 9223372036854775807) : Ev (fun k => spec_paGood.f k n l) (party n l) := by
  unfold spec_paGood.f
  refine ev_bind0 (paPeople_eq n) ?_
  cases hb : (decide (0 ≤ n) && decide (n ≤ 12)) with
  | false =>
    have e : party n l = false := by unfold party; rw [hb]; rfl
    rw [e]
    refine ev_if (fun h => by simp at h) (fun _ => ?_)
    exact Ev.step (f := fun _ => some false) (fun k => by simp [spec_paGood.j0]) (Ev.now _)
  | true =>
    have hn : 0 ≤ n ∧ n ≤ 12 := by simpa using hb
    have e : party n l = (List.range l.length).all (okAt n l) := by unfold party; rw [hb]; rfl
    refine ev_if (fun _ => ?_) (fun h => absurd rfl h)
    rw [bound_eq hn.1 hn.2]
    by_cases c : (l.length : Int) > n * (n - 1) / 2
    · refine Ev.step (f := fun _ => some false) (fun k => ?_) ?_
      · simp only [spec_paGood.j0]
        rw [if_pos (decide_eq_true c)]
      · cases hp : party n l with
        | false => exact Ev.now _
        | true =>
          exfalso
          obtain ⟨m, rfl, h12, hr, hs⟩ := party_right hp
          have := party_len h12 hr hs
          omega
    · rw [e]
      refine Ev.step (f := fun k => spec_paGood.l0 k l (l.length : Int) 0 n l) (fun k => ?_) (paGood_l0 n l hn.1 hn.2 h)
      simp only [spec_paGood.j0]
      rw [if_neg (by simpa using c)]
end Go.Proofs.Ytdkmkcgghhncdaa.Plain

/- The party of a table, on both sides. No condition but that there are at most twelve people. -/
namespace Go.Proofs.Ytdkmkcgghhncdaa.Plain
open Go.RowKit Go.Proofs.YtdkmkcgghhncdaaW.PrintWords Go.Proofs.YtdkmkcgghhncdaaW.PrintLast
set_option linter.unusedVariables false
open Q

theorem has_eq {n : Nat} (hn : n ≤ 12) (f : Nat → Nat → Bool) {a b : Nat} (ha : a < n) (hb : b < n) : impl_table_has.f (tabF n f) (a : Int) (b : Int) = some (f a b) := by
  unfold impl_table_has.f
  rw [if_pos (by omega), if_pos (by rw [tabF_length]; omega), if_pos (by omega), tabF_get ha]
  have hm := mask16 (f := f a) (n := n) (by omega)
  have e1 : shr .u16 ((maskOf (f a) n : Nat) : Int) (b : Int) = ((maskOf (f a) n / 2 ^ b : Nat) : Int) := by
    unfold shr
    have h1 : min ((b : Int)).toNat IntKind.u16.bits = b := by
      rw [Int.toNat_natCast]
      exact Nat.min_eq_left (by show b ≤ 16; omega)
    rw [h1]
    simp
  have hlt : maskOf (f a) n / 2 ^ b < 2 ^ 16 := Nat.lt_of_le_of_lt (Nat.div_le_self _ _) hm
  have e2 : Go.bits .and .u16 ((maskOf (f a) n / 2 ^ b : Nat) : Int) 1 = (((maskOf (f a) n / 2 ^ b) % 2 : Nat) : Int) := by
    rw [show (1 : Int) = ((1 : Nat) : Int) by rfl, and16 hlt (by omega), Nat.and_one_is_mod]
  rw [e1, e2]
  have hb2 := maskOf_bit (f a) n b
  rw [Nat.testBit_eq_decide_div_mod_eq, decide_eq_true hb, Bool.true_and] at hb2
  congr 1
  rw [← hb2, Bool.eq_iff_iff, beq_iff_eq, decide_eq_true_eq]
  omega

end Go.Proofs.Ytdkmkcgghhncdaa.Plain

/- The law's own functions over parties, and the reference's test. No condition but lengths that fit. -/
namespace Go.Proofs.Ytdkmkcgghhncdaa.Plain
open Go.RowKit Go.Proofs.YtdkmkcgghhncdaaW.PrintWords Go.Proofs.YtdkmkcgghhncdaaW.PrintLast
set_option linter.unusedVariables false
open Q

abbrev Lp := S58
/-- A pair of the law's as a pair of the program's. -/
def toP (x : Lp) : Pr := ⟨x.f0, x.f1⟩

theorem szParty_eq (n : Int) (l : List Lp) (a : Int) (h0 : 0 ≤ a) (h1 : a ≤ 1048576) (h : l.length ≤ 9223372036854775807) : laws_szParty.f n l a = some (if a < (l.length : Int) then -1 else a - l.length) := by
  unfold laws_szParty.f laws_szPairS.f
  rw [wrap_id (by omega) (by omega)]
  by_cases hl : a < (l.length : Int)
  · rw [if_pos (by omega), Option.bind_some, if_pos (by omega), if_pos hl]
  · rw [if_neg (by omega), Option.bind_some, if_neg (by omega), if_neg hl]

theorem rdLp_at {l : List Lp} {i : Nat} (h : i < l.length) : rd_T58 l (i : Int) = l[i] := by
  simp [rd_T58, List.getD, h]

theorem copy_map {α β : Type} (z : β) (g : α → β) (l : List α) (i : Nat) (h : i < l.length) :
    ((l.map g).take i ++ List.replicate (l.length - i) z).set ((i : Int)).toNat (g l[i]) = (l.map g).take (i + 1) ++ List.replicate (l.length - (i + 1)) z := by
  have e : l.length - i = (l.length - (i + 1)) + 1 := by omega
  have hl : ((l.map g).take i).length = i := by simp; omega
  have hm : i < (l.map g).length := by simpa using h
  rw [Int.toNat_natCast, e, List.replicate_succ, List.set_append_right _ _ (by omega), hl, Nat.sub_self, List.set_cons_zero, List.take_succ_eq_append_getElem hm, List.append_assoc, List.getElem_map]
  rfl

theorem toPairS_ev (l : List Lp) (h : l.length ≤ 17592186044416) : Ev (fun k => laws_toPairS.f k l) (l.map toP) := by
  refine Ev.congr (f := fun k => laws_toPairS.l0 k l (List.replicate l.length z56) 0) (fun k => ?_) ?_
  · unfold laws_toPairS.f
    rw [if_pos (by omega), if_pos (by omega), Int.toNat_natCast]
  · have q := ev_up (n := l.length) (loop := fun k i => laws_toPairS.l0 k l ((l.map toP).take i ++ List.replicate (l.length - i) z56) (i : Int)) (r := fun _ => l.map toP)
      (Ev.step (f := fun _ => some (l.map toP)) (fun k => by
        simp only [laws_toPairS.l0]
        rw [if_neg (by omega), Nat.sub_self, List.replicate_zero, List.append_nil, List.take_of_length_le (by simp)]) (Ev.now _))
      (fun i hi ih => Ev.step (f := fun k => laws_toPairS.l0 k l ((l.map toP).take (i + 1) ++ List.replicate (l.length - (i + 1)) z56) ((i + 1 : Nat) : Int)) (fun k => by
        simp only [laws_toPairS.l0]
        rw [if_pos (by omega), if_pos (by omega), rdLp_at hi]
        show (if (i : Int) < _ then laws_toPairS.l0 k l (List.set _ _ (toP l[i])) _ else none) = _
        rw [if_pos (by simp; omega), copy_map _ toP l i hi, succ_cast hi (by omega)]) ih) 0 (Nat.zero_le _)
    simpa using q

theorem toParty_ev (n : Int) (l : List Lp) (h : l.length ≤ 17592186044416) : Ev (fun k => laws_toParty.f k n l) (n, l.map toP) := by
  unfold laws_toParty.f
  exact Ev.bind (f := fun _ t => some (n, t)) (toPairS_ev l h) (Ev.now _)

theorem eqPair_eq (x : Pr) : laws_eqPair.f x.f0 x.f1 x.f0 x.f1 = some true := by
  unfold laws_eqPair.f
  rw [if_pos rfl, if_pos rfl]

theorem eqPairS_ev (l : List Pr) (h : l.length ≤ 9223372036854775807) : Ev (fun k => laws_eqPairS.f k l l) true := by
  refine Ev.congr (f := fun k => laws_eqPairS.l0 k l l 0) (fun k => ?_) ?_
  · unfold laws_eqPairS.f
    rw [if_pos rfl]
  · exact ev_up (n := l.length) (loop := fun k i => laws_eqPairS.l0 k l l (i : Int)) (r := fun _ => true)
      (Ev.step (f := fun _ => some true) (fun k => by simp [laws_eqPairS.l0]) (Ev.now true))
      (fun i hi ih => Ev.step (f := fun k => laws_eqPairS.l0 k l l ((i + 1 : Nat) : Int)) (fun k => by
        simp only [laws_eqPairS.l0]
        rw [if_pos (by omega), if_pos (by omega), if_pos (by omega), rdP_at hi, eqPair_eq, Option.bind_some, if_pos rfl, succ_cast hi h]) ih) 0 (Nat.zero_le _)

theorem eqParty_ev (n : Int) (l : List Pr) (h : l.length ≤ 9223372036854775807) : Ev (fun k => laws_eqParty.f k n l n l) true := by
  refine Ev.congr (f := fun k => (laws_eqPairS.f k l l).bind fun t => if t = true then some true else some false) (fun k => ?_) ?_
  · unfold laws_eqParty.f
    rw [if_pos rfl]
  · exact Ev.bind (f := fun _ t => if t = true then some true else some false) (eqPairS_ev l h) (ev_some (fun _ => rfl))
end Go.Proofs.Ytdkmkcgghhncdaa.Plain

/- Rows of people, each beside a friend: the whole ones behind one begun. -/
namespace Go.Proofs.Ytdkmkcgghhncdaa.Plain
open Go.RowKit Go.Proofs.YtdkmkcgghhncdaaW.PrintWords Go.Proofs.YtdkmkcgghhncdaaW.PrintLast
set_option linter.unusedVariables false
open Q

/-- May a follow a row begun. -/
def okR (f : Nat → Nat → Bool) (b : List Nat) (a : Nat) : Bool := !b.contains a && (match b.getLast? with | none => true | some l => f l a)
/-- The whole rows behind one begun, d people before its end. -/
def whole (n : Nat) (f : Nat → Nat → Bool) : Nat → List Nat → List (List Nat)
  | 0, b => [b]
  | d + 1, b => (List.range n).flatMap fun a => if okR f b a = true then whole n f d (b ++ [a]) else []
def encR (b : List Nat) : List Int := b.map fun x : Nat => (x : Int)
theorem encR_length (b : List Nat) : (encR b).length = b.length := by simp [encR]
theorem encR_snoc (b : List Nat) (a : Nat) : encR (b ++ [a]) = encR b ++ [(a : Int)] := by simp [encR]
theorem encR_contains (b : List Nat) (a : Nat) : (encR b).contains (a : Int) = b.contains a := by
  rw [Bool.eq_iff_iff, List.contains_iff_mem, List.contains_iff_mem]
  unfold encR
  rw [List.mem_map]
  constructor
  · rintro ⟨x, hx, e⟩
    obtain rfl : x = a := by omega
    exact hx
  · exact fun h => ⟨a, h, rfl⟩
/-- The part of the whole rows that starts at the a-th follower. -/
def wholeFrom (n : Nat) (f : Nat → Nat → Bool) (d : Nat) (b : List Nat) (a : Nat) : List (List Nat) := ((List.range n).drop a).flatMap fun a => if okR f b a = true then whole n f d (b ++ [a]) else []
theorem wholeFrom_end (n : Nat) (f : Nat → Nat → Bool) (d : Nat) (b : List Nat) : wholeFrom n f d b n = [] := by
  unfold wholeFrom
  rw [List.drop_of_length_le (by simp)]; rfl
theorem wholeFrom_step {n : Nat} {f : Nat → Nat → Bool} {d : Nat} {b : List Nat} {a : Nat} (h : a < n) : wholeFrom n f d b a = (if okR f b a = true then whole n f d (b ++ [a]) else []) ++ wholeFrom n f d b (a + 1) := by
  unfold wholeFrom
  rw [List.drop_eq_getElem_cons (by simpa using h), List.getElem_range, List.flatMap_cons]
theorem whole_from (n : Nat) (f : Nat → Nat → Bool) (d : Nat) (b : List Nat) : whole n f (d + 1) b = wholeFrom n f d b 0 := by
  unfold wholeFrom
  rw [List.drop_zero]; rfl
theorem whole_length (n : Nat) (f : Nat → Nat → Bool) : ∀ (d : Nat) (b : List Nat), ∀ x ∈ whole n f d b, x.length = b.length + d
  | 0, b, x, h => by
    simp only [whole, List.mem_singleton] at h
    subst h; rfl
  | d + 1, b, x, h => by
    simp only [whole] at h
    obtain ⟨a, _, h⟩ := List.mem_flatMap.1 h
    split at h
    · have := whole_length n f d (b ++ [a]) x h
      rw [List.length_append, List.length_singleton] at this
      omega
    · simp at h
end Go.Proofs.Ytdkmkcgghhncdaa.Plain

/- The program's rows: the first whole row that is told. No condition but that there are at most twelve people. -/
namespace Go.Proofs.Ytdkmkcgghhncdaa.Plain
open Go.RowKit Go.Proofs.YtdkmkcgghhncdaaW.PrintWords Go.Proofs.YtdkmkcgghhncdaaW.PrintLast
set_option linter.unusedVariables false
open Q

theorem encR_last {b : List Nat} (h : 0 < b.length) (hb : b.length ≤ 12) : rd (encR b) (wrap64 ((b.length : Int) - 1)) = ((b.getLast (List.length_pos_iff.1 h) : Nat) : Int) := by
  have e : wrap64 ((b.length : Int) - 1) = ((b.length - 1 : Nat) : Int) := by unfold wrap64; omega
  have hl : b.length - 1 < (encR b).length := by rw [encR_length]; omega
  rw [e, rd_at hl]
  simp [encR, List.getLast_eq_getElem]
theorem okR_some {f : Nat → Nat → Bool} {b : List Nat} {a : Nat} (h : 0 < b.length) : okR f b a = (!b.contains a && f (b.getLast (List.length_pos_iff.1 h)) a) := by
  unfold okR
  rw [List.getLast?_eq_some_getLast (List.length_pos_iff.1 h)]
theorem okR_nil {f : Nat → Nat → Bool} {a : Nat} : okR f [] a = true := by simp [okR]
theorem rowsTail_ev {p : List Int → Option Bool} {n : Nat} {f : Nat → Nat → Bool} {b : List Nat} {a : Nat} {r1 r2 : Option (List Int)} (hb : b.length ≤ 12) (h1 : Ev (fun k => impl_table_rows.f p k (tabF n f) (encR (b ++ [a]))) r1) (h2 : Ev (fun k => impl_table_rows.l0 p k (tabF n f) (encR b) ((a + 1 : Nat) : Int)) r2) :
    Ev (fun k => (slices_Clone_int_int.f (encR b)).bind fun o => if o.length < 17592186044416 then ((impl_table_rows.f p k (tabF n f) (o ++ [(a : Int)])).bind fun r => if r.isSome = true then some r else impl_table_rows.l0 p k (tabF n f) (encR b) ((a + 1 : Nat) : Int)) else none) (r1.or r2) := by
  refine ev_bind0 (a := encR b) (by unfold slices_Clone_int_int.f; rw [if_pos (by rw [encR_length]; omega)]) ?_
  refine ev_if (fun _ => ?_) (fun c => absurd (by rw [encR_length]; omega) c)
  rw [encR_snoc] at h1
  refine Ev.bind h1 ?_
  cases r1 with
  | none => simpa using h2
  | some x => simpa using Ev.now (some x)
theorem rows_ev {n : Nat} (hn : n ≤ 12) (f : Nat → Nat → Bool) (p : List Int → Option Bool) (P : List Nat → Bool) (hp : ∀ b : List Nat, b.length = n → (∀ x ∈ b, x < n) → p (encR b) = some (P b)) : ∀ (d : Nat) (b : List Nat), b.length + d = n → (∀ x ∈ b, x < n) → Ev (fun k => impl_table_rows.f p k (tabF n f) (encR b)) ((((whole n f d b).filter P).head?).map encR) := by
  intro d
  induction d with
  | zero =>
    intro b hb hx
    have hT : (tabF n f).length = n := tabF_length _ _
    refine Ev.step (f := fun _ => some (if P b = true then some (encR b) else none)) (fun k => ?_) ?_
    · simp only [impl_table_rows.f]
      rw [encR_length, hT, if_pos (by omega), hp b (by omega) hx, Option.bind_some]
    · by_cases c : P b = true
      · rw [if_pos c]; simpa [whole, c] using Ev.now (some (encR b))
      · rw [if_neg c]; simpa [whole, c] using Ev.now (none : Option (List Int))
  | succ d ih =>
    intro b hb hx
    have hT : (tabF n f).length = n := tabF_length _ _
    have hL : ((encR b).length : Int) = (b.length : Int) := by rw [encR_length]
    rw [whole_from]
    have loop : ∀ e a, n - a = e → a ≤ n → Ev (fun k => impl_table_rows.l0 p k (tabF n f) (encR b) (a : Int)) ((((wholeFrom n f d b a).filter P).head?).map encR) := by
      intro e
      induction e with
      | zero =>
        intro a he ha
        obtain rfl : a = n := by omega
        rw [wholeFrom_end]
        exact Ev.step (f := fun _ => some none) (fun k => by simp only [impl_table_rows.l0]; rw [hT, if_neg (by omega)]) (Ev.now _)
      | succ e ihe =>
        intro a he ha
        have han : a < n := by omega
        have hnext := ihe (a + 1) (by omega) (by omega)
        have hsnoc : okR f b a = true → Ev (fun k => impl_table_rows.f p k (tabF n f) (encR (b ++ [a]))) ((((whole n f d (b ++ [a])).filter P).head?).map encR) := fun _ =>
          ih (b ++ [a]) (by rw [List.length_append, List.length_singleton]; omega) (fun x h => by
            rcases List.mem_append.1 h with h | h
            · exact hx x h
            · obtain rfl := List.mem_singleton.1 h; exact han)
        rw [wholeFrom_step han, List.filter_append, List.head?_append, Option.map_or]
        have hc : Ev (fun k => slices_Contains_int_int.f k (encR b) (a : Int)) (b.contains a) := by
          rw [← encR_contains]; exact contains_ev _ _ (by rw [encR_length]; omega)
        by_cases hok : okR f b a = true
        · rw [if_pos hok]
          have hnc : b.contains a = false := by
            unfold okR at hok; simp only [Bool.and_eq_true, Bool.not_eq_true'] at hok; exact hok.1
          refine Ev.step (f := fun k => (slices_Contains_int_int.f k (encR b) (a : Int)).bind fun c => if c = true then impl_table_rows.l0 p k (tabF n f) (encR b) ((a + 1 : Nat) : Int) else ((slices_Clone_int_int.f (encR b)).bind fun o => if o.length < 17592186044416 then ((impl_table_rows.f p k (tabF n f) (o ++ [(a : Int)])).bind fun r => if r.isSome = true then some r else impl_table_rows.l0 p k (tabF n f) (encR b) ((a + 1 : Nat) : Int)) else none)) (fun k => ?_) ?_
          · simp only [impl_table_rows.l0]
            rw [hT, if_pos (by omega), succ_cast han (by omega), hL]
            by_cases hz : 0 < b.length
            · rw [if_pos (show (0 : Int) < (b.length : Int) by omega), encR_last hz (by omega), if_pos (show (0 : Int) ≤ wrap64 ((b.length : Int) - 1) by rw [pred_cast (by omega) (by omega)]; omega), if_pos (show wrap64 ((b.length : Int) - 1) < (b.length : Int) by rw [pred_cast (by omega) (by omega)]; omega), has_eq hn f (hx _ (List.getLast_mem _)) han, Option.bind_some, if_pos (by rw [okR_some hz] at hok; simp only [Bool.and_eq_true] at hok; exact hok.2)]
            · rw [if_neg (show ¬ (0 : Int) < (b.length : Int) by omega)]
          · refine Ev.bind hc ?_
            rw [hnc]
            exact rowsTail_ev (by omega) (hsnoc hok) hnext
        · rw [if_neg hok, List.filter_nil, List.head?_nil, Option.map_none, Option.none_or]
          by_cases hin : b.contains a = true
          · refine Ev.step (f := fun k => (slices_Contains_int_int.f k (encR b) (a : Int)).bind fun c => if c = true then impl_table_rows.l0 p k (tabF n f) (encR b) ((a + 1 : Nat) : Int) else (if (0 : Int) < (b.length : Int) then (if 0 ≤ wrap64 ((b.length : Int) - 1) then (if wrap64 ((b.length : Int) - 1) < (b.length : Int) then ((impl_table_has.f (tabF n f) (rd (encR b) (wrap64 ((b.length : Int) - 1))) (a : Int)).bind fun h => if h = true then ((slices_Clone_int_int.f (encR b)).bind fun o => if o.length < 17592186044416 then ((impl_table_rows.f p k (tabF n f) (o ++ [(a : Int)])).bind fun r => if r.isSome = true then some r else impl_table_rows.l0 p k (tabF n f) (encR b) ((a + 1 : Nat) : Int)) else none) else impl_table_rows.l0 p k (tabF n f) (encR b) ((a + 1 : Nat) : Int)) else none) else none) else ((slices_Clone_int_int.f (encR b)).bind fun o => if o.length < 17592186044416 then ((impl_table_rows.f p k (tabF n f) (o ++ [(a : Int)])).bind fun r => if r.isSome = true then some r else impl_table_rows.l0 p k (tabF n f) (encR b) ((a + 1 : Nat) : Int)) else none))) (fun k => ?_) ?_
            · simp only [impl_table_rows.l0]
              rw [hT, if_pos (by omega), succ_cast han (by omega), hL]
            · refine Ev.bind hc ?_
              rw [hin]
              exact hnext
          · have hz : 0 < b.length := by
              rcases Nat.eq_zero_or_pos b.length with h | h
              · obtain rfl := List.eq_nil_of_length_eq_zero h
                exact absurd okR_nil hok
              · exact h
            have hno : ¬ f (b.getLast (List.length_pos_iff.1 hz)) a = true := fun q => hok (by
              rw [okR_some hz, q]; simpa using hin)
            refine Ev.step (f := fun k => (slices_Contains_int_int.f k (encR b) (a : Int)).bind fun c => if c = true then impl_table_rows.l0 p k (tabF n f) (encR b) ((a + 1 : Nat) : Int) else impl_table_rows.l0 p k (tabF n f) (encR b) ((a + 1 : Nat) : Int)) (fun k => ?_) ?_
            · simp only [impl_table_rows.l0]
              rw [hT, if_pos (by omega), succ_cast han (by omega), hL, if_pos (show (0 : Int) < (b.length : Int) by omega), encR_last hz (by omega), if_pos (show (0 : Int) ≤ wrap64 ((b.length : Int) - 1) by rw [pred_cast (by omega) (by omega)]; omega), if_pos (show wrap64 ((b.length : Int) - 1) < (b.length : Int) by rw [pred_cast (by omega) (by omega)]; omega), has_eq hn f (hx _ (List.getLast_mem _)) han, Option.bind_some, if_neg hno]
            · refine Ev.bind hc ?_
              exact ev_if (fun _ => hnext) (fun _ => hnext)
    refine Ev.step (f := fun k => impl_table_rows.l0 p k (tabF n f) (encR b) ((0 : Nat) : Int)) (fun k => ?_) (loop n 0 (by omega) (by omega))
    simp only [impl_table_rows.f]
    rw [encR_length, hT, if_neg (by omega)]; rfl
end Go.Proofs.Ytdkmkcgghhncdaa.Plain

/- The reference's rows: how many whole rows are told, and the first one. No condition but that there are at most twelve people. -/
namespace Go.Proofs.Ytdkmkcgghhncdaa.Plain
open Go.RowKit Go.Proofs.YtdkmkcgghhncdaaW.PrintWords Go.Proofs.YtdkmkcgghhncdaaW.PrintLast
set_option linter.unusedVariables false
open Q

/-- Whole rows put to what is known. -/
def appR (q : Int × List Int) (l : List (List Nat)) : Int × List Int := (q.1 + (l.length : Int), if q.1 = 0 then ((l.head?).map encR).getD q.2 else q.2)
theorem appR_nil (q : Int × List Int) : appR q [] = q := by
  unfold appR; ext1
  · simp
  · simp
theorem appR_append {q : Int × List Int} (h : 0 ≤ q.1) (l m : List (List Nat)) : appR (appR q l) m = appR q (l ++ m) := by
  unfold appR
  simp only [List.length_append, List.head?_append]
  ext1
  · simp only []; omega
  · simp only []
    by_cases c : q.1 = 0
    · cases l with
      | nil => simp [c]
      | cons x t =>
        have : ¬ (q.1 + (((x :: t).length : Nat) : Int) = 0) := by simp only [List.length_cons]; omega
        rw [if_neg this, if_pos c, if_pos c]; simp
    · have : ¬ (q.1 + (l.length : Int) = 0) := by omega
      rw [if_neg this, if_neg c, if_neg c]
/-- Is a whole row told: any, or a round in one of its two directions. -/
def toldB (n : Nat) (f : Nat → Nat → Bool) (ar : Bool) (b : List Nat) : Bool := !ar || (decide (3 ≤ n) && f (b.getLastD 0) (b.getD 0 0) && decide (b.getD 1 0 ≤ b.getLastD 0))
theorem taRow_eq {n : Nat} {f : Nat → Nat → Bool} {a : Nat} (h : a < n) : spec_taLook.row (tabB n f) (a : Int) = rowB n (f a) := by
  unfold spec_taLook.row
  rw [Int.toNat_natCast, List.getD_eq_getElem?_getD, List.getElem?_eq_getElem (by rw [tabB_length]; exact h), Option.getD_some, tabB_getElem]
theorem rowB_rd {n : Nat} {f : Nat → Bool} {a : Nat} (h : a < n) : rdOf false (rowB n f) (a : Int) = f a := by
  rw [rdOfB_at (by rw [rowB_length]; exact h), rowB_get]
theorem encR_rd {b : List Nat} {i : Nat} (h : i < b.length) : rd (encR b) (i : Int) = ((b[i] : Nat) : Int) := by
  rw [rd_at (by rw [encR_length]; exact h)]; simp [encR]
theorem taBad_eq {n : Nat} {f : Nat → Nat → Bool} {ar : Bool} {b : List Nat} (hl : b.length = n) (hz : 0 < b.length) (hx : ∀ x ∈ b, x < n) : spec_taLook.bad (tabB n f) (encR b) ar ((b.getLast (List.length_pos_iff.1 hz) : Nat) : Int) = some (!toldB n f ar b) := by
  have hlast : b.getLast (List.length_pos_iff.1 hz) < n := hx _ (List.getLast_mem _)
  have eD : b.getLastD 0 = b.getLast (List.length_pos_iff.1 hz) := by
    rw [List.getLastD_eq_getLast?, List.getLast?_eq_some_getLast (List.length_pos_iff.1 hz), Option.getD_some]
  have e0 : b.getD 0 0 = b[0] := by rw [List.getD_eq_getElem?_getD, List.getElem?_eq_getElem hz, Option.getD_some]
  have r0 : rd (encR b) 0 = ((b[0] : Nat) : Int) := encR_rd (i := 0) hz
  have h0 : b[0] < n := hx _ (List.getElem_mem _)
  unfold spec_taLook.bad toldB
  rw [eD, e0, r0, tabB_length, encR_length, taRow_eq hlast, rowB_length, rowB_rd h0]
  generalize b.getLast (List.length_pos_iff.1 hz) = la at hlast
  cases ar with
  | false => rfl
  | true =>
    rw [if_pos rfl]
    by_cases h3 : (n : Int) < 3
    · rw [if_pos h3, show decide (3 ≤ n) = false from decide_eq_false (by omega)]; rfl
    · have e1 : b.getD 1 0 = b[1] := by rw [List.getD_eq_getElem?_getD, List.getElem?_eq_getElem (by omega), Option.getD_some]
      have r1 : rd (encR b) 1 = ((b[1] : Nat) : Int) := encR_rd (i := 1) (by omega)
      rw [if_neg h3, if_pos (by omega), if_pos (by omega), if_pos (by omega), if_pos (by omega), if_pos (by omega), show decide (3 ≤ n) = true from decide_eq_true (by omega), e1, r1]
      by_cases c : f la b[0] = true
      · rw [if_pos c, if_pos (by omega), c]
        congr 1
        simp only [Bool.not_true, Bool.false_or, Bool.true_and]
        by_cases g : b[1] ≤ la
        · rw [decide_eq_true g, decide_eq_false (by omega)]; rfl
        · rw [decide_eq_false g, decide_eq_true (by omega)]; rfl
      · rw [if_neg c, show f la b[0] = false by simpa using c]; rfl
theorem own_eqR {l : List Int} (h : l.length ≤ 1000) : spec_l1Own.f l = some l := by
  unfold spec_l1Own.f
  simp [show l.length < 17592186044416 by omega]
theorem look_ev {n : Nat} (hn : n ≤ 12) (f : Nat → Nat → Bool) (ar : Bool) : ∀ (d : Nat) (b : List Nat), 0 < b.length → b.length + d = n → (∀ x ∈ b, x < n) → ∀ q : Int × List Int, 0 ≤ q.1 → q.1 + (((whole n f d b).filter (toldB n f ar)).length : Int) ≤ 4611686018427387904 → Ev (fun k => spec_taLook.f k (tabB n f) (encR b) ar q.1 q.2) (appR q ((whole n f d b).filter (toldB n f ar))) := by
  intro d
  induction d with
  | zero =>
    intro b hz hb hx q hq hm
    have hT : (tabB n f).length = n := tabB_length _ _
    have hL : ((encR b).length : Int) = (b.length : Int) := by rw [encR_length]
    refine Ev.step (f := fun _ => some (if toldB n f ar b = true then (if q.1 = 0 then (q.1 + 1, encR b) else (q.1 + 1, q.2)) else (q.1, q.2))) (fun k => ?_) ?_
    · simp only [spec_taLook.f]
      rw [hL, if_pos (show (0 : Int) ≤ wrap64 ((b.length : Int) - 1) by rw [pred_cast (by omega) (by omega)]; omega), if_pos (show wrap64 ((b.length : Int) - 1) < (b.length : Int) by rw [pred_cast (by omega) (by omega)]; omega), hT, if_pos (by omega), encR_last hz (by omega), taBad_eq (by omega) hz hx, Option.bind_some]
      cases ht : toldB n f ar b with
      | false => rfl
      | true =>
        have hw : wrap64 (q.1 + 1) = q.1 + 1 := wrap_id (by omega) (by
          have : ((whole n f 0 b).filter (toldB n f ar)).length = 1 := by simp [whole, ht]
          omega)
        rw [if_neg (by simp), if_pos rfl, hw]
        by_cases c : q.1 = 0
        · rw [if_pos c, if_pos c, own_eqR (by rw [encR_length]; omega), Option.bind_some]
        · rw [if_neg c, if_neg c]
    · have e : (whole n f 0 b).filter (toldB n f ar) = if toldB n f ar b = true then [b] else [] := by
        by_cases c : toldB n f ar b = true
        · rw [if_pos c]; simp [whole, c]
        · rw [if_neg c]; simp [whole, c]
      rw [e]
      by_cases c : toldB n f ar b = true
      · rw [if_pos c, if_pos c]
        unfold appR
        by_cases g : q.1 = 0
        · rw [if_pos g, if_pos g]; exact Ev.now _
        · rw [if_neg g, if_neg g]; exact Ev.now _
      · rw [if_neg c, if_neg c, appR_nil]; exact Ev.now _
  | succ d ih =>
    intro b hz hb hx q hq hm
    have hT : (tabB n f).length = n := tabB_length _ _
    have hL : ((encR b).length : Int) = (b.length : Int) := by rw [encR_length]
    have hlast : b.getLast (List.length_pos_iff.1 hz) < n := hx _ (List.getLast_mem _)
    rw [whole_from] at hm ⊢
    have loop : ∀ e a, n - a = e → a ≤ n → ∀ q : Int × List Int, 0 ≤ q.1 → q.1 + (((wholeFrom n f d b a).filter (toldB n f ar)).length : Int) ≤ 4611686018427387904 → Ev (fun k => spec_taLook.l0 k (tabB n f) (encR b) ar ((b.getLast (List.length_pos_iff.1 hz) : Nat) : Int) (a : Int) q.1 q.2) (appR q ((wholeFrom n f d b a).filter (toldB n f ar))) := by
      intro e
      induction e with
      | zero =>
        intro a he ha q hq hm
        obtain rfl : a = n := by omega
        rw [wholeFrom_end, List.filter_nil, appR_nil]
        exact Ev.step (f := fun _ => some (q.1, q.2)) (fun k => by simp only [spec_taLook.l0]; rw [taRow_eq hlast, rowB_length, if_neg (by omega)]) (Ev.now _)
      | succ e ihe =>
        intro a he ha q hq hm
        have han : a < n := by omega
        rw [wholeFrom_step han, List.filter_append] at hm ⊢
        rw [List.length_append] at hm
        have hc : Ev (fun k => spec_l1Has.f k (encR b) (a : Int)) (b.contains a) := by
          rw [← encR_contains]; exact l1Has_ev _ _ (by rw [encR_length]; omega)
        by_cases hf : f (b.getLast (List.length_pos_iff.1 hz)) a = true
        · refine Ev.step (f := fun k => (spec_l1Has.f k (encR b) (a : Int)).bind fun h => if h = true then spec_taLook.l0 k (tabB n f) (encR b) ar ((b.getLast (List.length_pos_iff.1 hz) : Nat) : Int) ((a + 1 : Nat) : Int) q.1 q.2 else ((spec_l1Own.f (encR b)).bind fun o => (if o.length < 17592186044416 then ((spec_taLook.f k (tabB n f) (o ++ [(a : Int)]) ar q.1 q.2).bind fun q_ => spec_taLook.l0 k (tabB n f) (encR b) ar ((b.getLast (List.length_pos_iff.1 hz) : Nat) : Int) ((a + 1 : Nat) : Int) q_.1 q_.2) else none))) (fun k => ?_) ?_
          · simp only [spec_taLook.l0]
            rw [taRow_eq hlast, rowB_length, rowB_rd han, if_pos (by omega), if_pos (by omega), if_pos hf, succ_cast han (by omega)]
          · refine Ev.bind hc ?_
            cases hin : b.contains a with
            | true =>
              have hok : ¬ okR f b a = true := by rw [okR_some hz, hin]; simp
              rw [if_neg hok, List.filter_nil, List.length_nil] at hm
              rw [if_neg hok, List.filter_nil, List.nil_append]
              exact ihe (a + 1) (by omega) (by omega) q hq (by omega)
            | false =>
              have hok : okR f b a = true := by rw [okR_some hz, hin, hf]; rfl
              rw [if_pos hok] at hm ⊢
              refine ev_bind0 (own_eqR (by rw [encR_length]; omega)) ?_
              refine ev_if (fun _ => ?_) (fun c => absurd (by rw [encR_length]; omega) c)
              have h1 := ih (b ++ [a]) (by rw [List.length_append, List.length_singleton]; omega) (by rw [List.length_append, List.length_singleton]; omega) (fun x h => by
                rcases List.mem_append.1 h with h | h
                · exact hx x h
                · obtain rfl := List.mem_singleton.1 h; exact han) q hq (by omega)
              rw [encR_snoc] at h1
              refine Ev.bind h1 ?_
              rw [← appR_append hq]
              exact ihe (a + 1) (by omega) (by omega) (appR q _) (by unfold appR; simp only []; omega) (by unfold appR; simp only []; omega)
        · have hok : ¬ okR f b a = true := by
            rw [okR_some hz]; simp only [Bool.and_eq_true]; exact fun h => hf h.2
          rw [if_neg hok, List.filter_nil, List.length_nil] at hm
          rw [if_neg hok, List.filter_nil, List.nil_append]
          refine Ev.step (f := fun k => spec_taLook.l0 k (tabB n f) (encR b) ar ((b.getLast (List.length_pos_iff.1 hz) : Nat) : Int) ((a + 1 : Nat) : Int) q.1 q.2) (fun k => ?_) (ihe (a + 1) (by omega) (by omega) q hq (by omega))
          simp only [spec_taLook.l0]
          rw [taRow_eq hlast, rowB_length, rowB_rd han, if_pos (by omega), if_pos (by omega), if_neg hf, succ_cast han (by omega)]
    refine Ev.step (f := fun k => spec_taLook.l0 k (tabB n f) (encR b) ar ((b.getLast (List.length_pos_iff.1 hz) : Nat) : Int) ((0 : Nat) : Int) q.1 q.2) (fun k => ?_) (loop n 0 (by omega) (by omega) q hq hm)
    simp only [spec_taLook.f]
    rw [hL, if_pos (show (0 : Int) ≤ wrap64 ((b.length : Int) - 1) by rw [pred_cast (by omega) (by omega)]; omega), if_pos (show wrap64 ((b.length : Int) - 1) < (b.length : Int) by rw [pred_cast (by omega) (by omega)]; omega), hT, if_neg (by omega), encR_last hz (by omega), if_pos (by omega), if_pos (by omega)]
    rfl
/-- How many whole rows there can be. -/
theorem whole_many (n : Nat) (f : Nat → Nat → Bool) : ∀ (d : Nat) (b : List Nat), (whole n f d b).length ≤ n ^ d
  | 0, b => by simp [whole]
  | d + 1, b => by
    have h : ∀ l : List Nat, (l.flatMap fun a => if okR f b a = true then whole n f d (b ++ [a]) else []).length ≤ l.length * n ^ d := by
      intro l
      induction l with
      | nil => simp
      | cons a l ih =>
        rw [List.flatMap_cons, List.length_append, List.length_cons, Nat.succ_mul]
        have : (if okR f b a = true then whole n f d (b ++ [a]) else []).length ≤ n ^ d := by
          split
          · exact whole_many n f d (b ++ [a])
          · simp
        omega
    have := h (List.range n)
    rw [List.length_range] at this
    rw [Nat.pow_succ, Nat.mul_comm]
    exact this
/-- All rows, or the rounds from the first on. -/
def allR (n : Nat) (f : Nat → Nat → Bool) (ar : Bool) : List (List Nat) := (if ar = true then (if 0 < n then whole n f (n - 1) [0] else []) else (if 0 < n then whole n f n [] else [])).filter (toldB n f ar)
theorem allR_many {n : Nat} (hn : n ≤ 9) (f : Nat → Nat → Bool) (ar : Bool) : (allR n f ar).length ≤ 387420489 := by
  unfold allR
  refine Nat.le_trans (List.length_filter_le _ _) ?_
  have hp : ∀ d, d ≤ 9 → n ^ d ≤ 387420489 := fun d hd => by
    rcases Nat.eq_zero_or_pos n with h | h
    · subst h
      rcases Nat.eq_zero_or_pos d with h2 | h2
      · subst h2; decide
      · rw [Nat.zero_pow h2]; omega
    · exact Nat.le_trans (Nat.pow_le_pow_right h hd) (Nat.le_trans (Nat.pow_le_pow_left hn 9) (by decide))
  split
  · split
    · exact Nat.le_trans (whole_many _ _ _ _) (hp _ (by omega))
    · simp
  · split
    · exact Nat.le_trans (whole_many _ _ _ _) (hp _ (by omega))
    · simp
theorem taAll_ev {n : Nat} (hn : n ≤ 9) (f : Nat → Nat → Bool) (ar : Bool) : Ev (fun k => spec_taAll.l0 k (tabB n f) ar 0 0 []) (appR (0, []) (allR n f ar)) := by
  have hT : (tabB n f).length = n := tabB_length _ _
  have hm := allR_many hn f ar
  unfold allR at hm ⊢
  cases ar with
  | true =>
    have skip : ∀ e a, n - a = e → a ≤ n → 0 < a → ∀ q : Int × List Int, Ev (fun k => spec_taAll.l0 k (tabB n f) true (a : Int) q.1 q.2) q := by
      intro e
      induction e with
      | zero =>
        intro a he ha h0 q
        exact Ev.step (f := fun _ => some (q.1, q.2)) (fun k => by simp only [spec_taAll.l0]; rw [hT, if_neg (by omega)]) (Ev.now _)
      | succ e ihe =>
        intro a he ha h0 q
        exact Ev.step (f := fun k => spec_taAll.l0 k (tabB n f) true ((a + 1 : Nat) : Int) q.1 q.2) (fun k => by
          simp only [spec_taAll.l0]
          rw [hT, if_pos (by omega), if_neg (by omega), if_pos trivial, succ_cast (show a < n by omega) (by omega)]) (ihe (a + 1) (by omega) (by omega) (by omega) q)
    rw [if_pos rfl] at hm ⊢
    by_cases hz : 0 < n
    · rw [if_pos hz] at hm ⊢
      refine Ev.step (f := fun k => (spec_taLook.f k (tabB n f) [0] true 0 []).bind fun q => spec_taAll.l0 k (tabB n f) true ((1 : Nat) : Int) q.1 q.2) (fun k => by
        simp only [spec_taAll.l0]
        rw [hT, if_pos (by omega), if_pos trivial, show wrap64 ((0 : Int) + 1) = ((1 : Nat) : Int) by unfold wrap64; omega]) ?_
      refine Ev.bind (look_ev (by omega) f true (n - 1) [0] (by simp) (by simp; omega) (by simpa using hz) (0, []) (by simp) (by show (0 : Int) + _ ≤ _; omega)) ?_
      exact skip (n - 1) 1 (by omega) (by omega) (by omega) _
    · rw [if_neg hz, List.filter_nil, appR_nil]
      exact Ev.step (f := fun _ => some (0, [])) (fun k => by simp only [spec_taAll.l0]; rw [hT, if_neg (by omega)]) (Ev.now _)
  | false =>
    rw [if_neg (by simp)] at hm ⊢
    by_cases hz : 0 < n
    · rw [if_pos hz] at hm ⊢
      obtain ⟨d, rfl⟩ : ∃ d, n = d + 1 := ⟨n - 1, by omega⟩
      rw [whole_from] at hm ⊢
      have loop : ∀ e a, d + 1 - a = e → a ≤ d + 1 → ∀ q : Int × List Int, 0 ≤ q.1 → q.1 + (((wholeFrom (d + 1) f d [] a).filter (toldB (d + 1) f false)).length : Int) ≤ 4611686018427387904 → Ev (fun k => spec_taAll.l0 k (tabB (d + 1) f) false (a : Int) q.1 q.2) (appR q ((wholeFrom (d + 1) f d [] a).filter (toldB (d + 1) f false))) := by
        intro e
        induction e with
        | zero =>
          intro a he ha q hq hm
          obtain rfl : a = d + 1 := by omega
          rw [wholeFrom_end, List.filter_nil, appR_nil]
          exact Ev.step (f := fun _ => some (q.1, q.2)) (fun k => by simp only [spec_taAll.l0]; rw [hT, if_neg (by omega)]) (Ev.now _)
        | succ e ihe =>
          intro a he ha q hq hm
          have han : a < d + 1 := by omega
          rw [wholeFrom_step han, List.filter_append] at hm ⊢
          rw [List.length_append] at hm
          rw [if_pos okR_nil, List.nil_append] at hm ⊢
          have h1 := look_ev (n := d + 1) (by omega) f false d [a] (by simp) (by simp; omega) (by simpa using han) q hq (by omega)
          refine Ev.step (f := fun k => (spec_taLook.f k (tabB (d + 1) f) [(a : Int)] false q.1 q.2).bind fun q_ => spec_taAll.l0 k (tabB (d + 1) f) false ((a + 1 : Nat) : Int) q_.1 q_.2) (fun k => by
            simp only [spec_taAll.l0]
            rw [hT, if_pos (by omega), succ_cast han (by omega)]
            by_cases c : (a : Int) = 0
            · rw [if_pos c]
            · rw [if_neg c, if_neg (by simp)]) ?_
          refine Ev.bind h1 ?_
          rw [← appR_append hq]
          exact ihe (a + 1) (by omega) (by omega) (appR q _) (by unfold appR; simp only []; omega) (by unfold appR; simp only []; exact (by omega))
      exact loop (d + 1) 0 (by omega) (by omega) (0, []) (by simp) (by show (0 : Int) + _ ≤ _; omega)
    · rw [if_neg hz, List.filter_nil, appR_nil]
      exact Ev.step (f := fun _ => some (0, [])) (fun k => by simp only [spec_taAll.l0]; rw [hT, if_neg (by omega)]) (Ev.now _)
end Go.Proofs.Ytdkmkcgghhncdaa.Plain

/- Whole rows from the first person: no one stands in them twice, and a round is told in one of its two directions. -/
namespace Go.Proofs.Ytdkmkcgghhncdaa.Plain
open Go.RowKit Go.Proofs.YtdkmkcgghhncdaaW.PrintWords Go.Proofs.YtdkmkcgghhncdaaW.PrintLast
set_option linter.unusedVariables false
open Q

theorem whole_prefix (n : Nat) (f : Nat → Nat → Bool) : ∀ (d : Nat) (b : List Nat), ∀ x ∈ whole n f d b, b <+: x
  | 0, b, x, h => by
    simp only [whole, List.mem_singleton] at h
    subst h; exact List.prefix_refl _
  | d + 1, b, x, h => by
    simp only [whole] at h
    obtain ⟨a, _, h⟩ := List.mem_flatMap.1 h
    split at h
    · exact (List.prefix_append b [a]).trans (whole_prefix n f d (b ++ [a]) x h)
    · simp at h
theorem whole_nodup (n : Nat) (f : Nat → Nat → Bool) : ∀ (d : Nat) (b : List Nat), b.Nodup → ∀ x ∈ whole n f d b, x.Nodup
  | 0, b, hb, x, h => by
    simp only [whole, List.mem_singleton] at h
    subst h; exact hb
  | d + 1, b, hb, x, h => by
    simp only [whole] at h
    obtain ⟨a, _, h⟩ := List.mem_flatMap.1 h
    split at h
    · rename_i hok
      have hn : a ∉ b := by
        unfold okR at hok
        simp only [Bool.and_eq_true, Bool.not_eq_true'] at hok
        intro q
        rw [← List.contains_iff_mem, hok.1] at q
        cases q
      refine whole_nodup n f d (b ++ [a]) ?_ x h
      rw [List.nodup_append]
      refine ⟨hb, by simp, ?_⟩
      intro y hy z hz
      obtain rfl := List.mem_singleton.1 hz
      exact fun e => hn (e ▸ hy)
    · simp at h
/-- The program's way to tell a round. -/
def toldI (f : Nat → Nat → Bool) (b : List Nat) : Bool := f (b.getLastD 0) 0 && decide (b.getD 1 0 < b.getLastD 0)
theorem isTold_eq {n : Nat} (hn : n ≤ 12) (h3 : 3 ≤ n) (f : Nat → Nat → Bool) {b : List Nat} (hl : b.length = n) (hx : ∀ x ∈ b, x < n) : impl_table_isTold.f (tabF n f) (encR b) = some (toldI f b) := by
  have hz : 0 < b.length := by omega
  have hlast : b.getLast (List.length_pos_iff.1 hz) < n := hx _ (List.getLast_mem _)
  have eD : b.getLastD 0 = b.getLast (List.length_pos_iff.1 hz) := by
    rw [List.getLastD_eq_getLast?, List.getLast?_eq_some_getLast (List.length_pos_iff.1 hz), Option.getD_some]
  have e1 : b.getD 1 0 = b[1] := by rw [List.getD_eq_getElem?_getD, List.getElem?_eq_getElem (by omega), Option.getD_some]
  have r1 : rd (encR b) 1 = ((b[1] : Nat) : Int) := encR_rd (i := 1) (by omega)
  have hh := has_eq hn f hlast (show 0 < n by omega)
  unfold impl_table_isTold.f toldI
  rw [eD, e1, r1, encR_length, encR_last hz (by omega), if_pos (show (0 : Int) ≤ wrap64 ((b.length : Int) - 1) by rw [pred_cast (by omega) (by omega)]; omega), if_pos (show wrap64 ((b.length : Int) - 1) < (b.length : Int) by rw [pred_cast (by omega) (by omega)]; omega), show impl_table_has.f (tabF n f) ((b.getLast (List.length_pos_iff.1 hz) : Nat) : Int) 0 = some (f (b.getLast (List.length_pos_iff.1 hz)) 0) from hh, Option.bind_some]
  generalize b.getLast (List.length_pos_iff.1 hz) = la
  cases f la 0 with
  | false => rfl
  | true =>
    rw [if_pos rfl, if_pos (by omega)]
    congr 1
    rw [Bool.true_and]
    exact decide_eq_decide.mpr (by omega)
/-- Of a whole row from the first person both say the same. -/
theorem told_same {n : Nat} (h3 : 3 ≤ n) (f : Nat → Nat → Bool) {x : List Nat} (hx : x ∈ whole n f (n - 1) [0]) : toldI f x = toldB n f true x := by
  have hl : x.length = n := by
    have := whole_length n f (n - 1) [0] x hx
    rw [List.length_singleton] at this
    omega
  have hz : 0 < x.length := by omega
  have h0 : x.getD 0 0 = 0 := by
    obtain ⟨t, rfl⟩ := whole_prefix n f (n - 1) [0] x hx
    rfl
  have hnd := whole_nodup n f (n - 1) [0] (by simp) x hx
  have eD : x.getLastD 0 = x[n - 1] := by
    rw [List.getLastD_eq_getLast?, List.getLast?_eq_some_getLast (List.length_pos_iff.1 hz), Option.getD_some, List.getLast_eq_getElem]
    congr 1
    omega
  have e1 : x.getD 1 0 = x[1] := by rw [List.getD_eq_getElem?_getD, List.getElem?_eq_getElem (by omega), Option.getD_some]
  have hne : x[1] ≠ x[n - 1] := by
    intro e
    have := (List.getElem_inj hnd).1 e
    omega
  unfold toldI toldB
  rw [h0, eD, e1, decide_eq_true h3, Bool.not_true, Bool.false_or, Bool.true_and]
  congr 1
  exact decide_eq_decide.mpr (by omega)
theorem filter_told {n : Nat} (h3 : 3 ≤ n) (f : Nat → Nat → Bool) : (whole n f (n - 1) [0]).filter (toldI f) = allR n f true := by
  unfold allR
  rw [if_pos rfl, if_pos (by omega)]
  exact List.filter_congr fun x hx => told_same h3 f hx
theorem allR_few {n : Nat} (h : n < 3) (f : Nat → Nat → Bool) : allR n f true = [] := by
  unfold allR
  rw [List.filter_eq_nil_iff]
  intro x _
  unfold toldB
  rw [decide_eq_false (show ¬ 3 ≤ n by omega)]
  simp
end Go.Proofs.Ytdkmkcgghhncdaa.Plain

/- The laws' marks: written into a list and found again. No condition but a length that fits. -/
namespace Go.Proofs.Ytdkmkcgghhncdaa.Plain
open Go.RowKit Go.Proofs.YtdkmkcgghhncdaaW.PrintWords Go.Proofs.YtdkmkcgghhncdaaW.PrintLast
set_option linter.unusedVariables false
open Q

/-- The marks of n pairs from v on. -/
def marksP (v : Int) (n : Nat) : List Pr := (List.range n).map fun i : Nat => ⟨v + 2 * (i : Int), v + 2 * (i : Int) + 1⟩
/-- The marks of n numbers from v on. -/
def marksI (v : Int) (n : Nat) : List Int := (List.range n).map fun i : Nat => v + (i : Int)
theorem marksP_length (v : Int) (n : Nat) : (marksP v n).length = n := by simp [marksP]
theorem marksI_length (v : Int) (n : Nat) : (marksI v n).length = n := by simp [marksI]
theorem marksP_get {v : Int} {n i : Nat} (h : i < (marksP v n).length) : (marksP v n)[i] = ⟨v + 2 * (i : Int), v + 2 * (i : Int) + 1⟩ := by simp [marksP]
theorem marksI_get {v : Int} {n i : Nat} (h : i < (marksI v n).length) : (marksI v n)[i] = v + (i : Int) := by simp [marksI]

theorem marksP_step (v : Int) (l : List Pr) {i : Nat} (hi : i < l.length) (x : Pr) (hx : x = ⟨v + 2 * (i : Int), v + 2 * (i : Int) + 1⟩) : (marksP v i ++ l.drop i).set i x = marksP v (i + 1) ++ l.drop (i + 1) := by
  apply List.ext_getElem
  · simp [marksP_length]; omega
  · intro j h1 h2
    rw [List.getElem_set]
    by_cases e : i = j
    · subst e
      rw [if_pos rfl, List.getElem_append_left (by rw [marksP_length]; omega), marksP_get, hx]
    · rw [if_neg e]
      by_cases c : j < i
      · rw [List.getElem_append_left (by rw [marksP_length]; omega), List.getElem_append_left (by rw [marksP_length]; omega), marksP_get, marksP_get]
      · rw [List.getElem_append_right (by rw [marksP_length]; omega), List.getElem_append_right (by rw [marksP_length]; omega), List.getElem_drop, List.getElem_drop]
        congr 1
        rw [marksP_length, marksP_length]
        omega
theorem marksI_step (v : Int) (l : List Int) {i : Nat} (hi : i < l.length) : (marksI v i ++ l.drop i).set i (v + (i : Int)) = marksI v (i + 1) ++ l.drop (i + 1) := by
  apply List.ext_getElem
  · simp [marksI_length]; omega
  · intro j h1 h2
    rw [List.getElem_set]
    by_cases e : i = j
    · subst e
      rw [if_pos rfl, List.getElem_append_left (by rw [marksI_length]; omega), marksI_get]
    · rw [if_neg e]
      by_cases c : j < i
      · rw [List.getElem_append_left (by rw [marksI_length]; omega), List.getElem_append_left (by rw [marksI_length]; omega), marksI_get, marksI_get]
      · rw [List.getElem_append_right (by rw [marksI_length]; omega), List.getElem_append_right (by rw [marksI_length]; omega), List.getElem_drop, List.getElem_drop]
        congr 1
        rw [marksI_length, marksI_length]
        omega

theorem markPairS_ev (l : List Pr) (v : Int) (h : l.length ≤ 1152921504606846976) (h0 : 0 ≤ v) (h1 : v ≤ 1000) : Ev (fun k => laws_markPairS.f k l v) (v + 2 * (l.length : Int), marksP v l.length) := by
  have q := ev_up (n := l.length) (loop := fun k i => laws_markPairS.l0 k (marksP v i ++ l.drop i) (v + 2 * (i : Int)) (i : Int)) (r := fun _ => (v + 2 * (l.length : Int), marksP v l.length))
    (by
      refine Ev.step (f := fun _ => some (v + 2 * (l.length : Int), marksP v l.length)) (fun k => ?_) (Ev.now _)
      simp only [laws_markPairS.l0]
      rw [List.drop_length, List.append_nil, if_neg (by rw [marksP_length]; omega)])
    (fun i hi ih => by
      have hlen : (marksP v i ++ l.drop i).length = l.length := by rw [List.length_append, marksP_length, List.length_drop]; omega
      have w1 : wrap64 (v + 2 * (i : Int) + 1) = v + 2 * (i : Int) + 1 := wrap_id (by omega) (by omega)
      have w2 : wrap64 (v + 2 * (i : Int) + 1 + 1) = v + 2 * ((i + 1 : Nat) : Int) := by rw [wrap_id (by omega) (by omega)]; omega
      refine Ev.step (f := fun k => laws_markPairS.l0 k (marksP v (i + 1) ++ l.drop (i + 1)) (v + 2 * ((i + 1 : Nat) : Int)) ((i + 1 : Nat) : Int)) (fun k => ?_) ih
      simp only [laws_markPairS.l0]
      rw [if_pos (by rw [hlen]; omega), if_pos (by omega), Option.bind_some, w1, w2, succ_cast hi (by omega), Int.toNat_natCast, List.set_set]
      rw [marksP_step v l hi _ (by rw [rdP_at (by rw [List.length_set, hlen]; exact hi), List.getElem_set_self])]) 0 (Nat.zero_le _)
  have e : marksP v 0 ++ l.drop 0 = l := by simp [marksP]
  rw [e] at q
  simpa [laws_markPairS.f] using q

theorem markIntS_ev (l : List Int) (v : Int) (h : l.length ≤ 1152921504606846976) (h0 : 0 ≤ v) (h1 : v ≤ 1152921504606846976) : Ev (fun k => laws_markIntS.f k l v) (v + (l.length : Int), marksI v l.length) := by
  have q := ev_up (n := l.length) (loop := fun k i => laws_markIntS.l0 k (marksI v i ++ l.drop i) (v + (i : Int)) (i : Int)) (r := fun _ => (v + (l.length : Int), marksI v l.length))
    (by
      refine Ev.step (f := fun _ => some (v + (l.length : Int), marksI v l.length)) (fun k => ?_) (Ev.now _)
      simp only [laws_markIntS.l0]
      rw [List.drop_length, List.append_nil, if_neg (by rw [marksI_length]; omega)])
    (fun i hi ih => by
      have hlen : (marksI v i ++ l.drop i).length = l.length := by rw [List.length_append, marksI_length, List.length_drop]; omega
      have w1 : wrap64 (v + (i : Int) + 1) = v + ((i + 1 : Nat) : Int) := by rw [wrap_id (by omega) (by omega)]; omega
      refine Ev.step (f := fun k => laws_markIntS.l0 k (marksI v (i + 1) ++ l.drop (i + 1)) (v + ((i + 1 : Nat) : Int)) ((i + 1 : Nat) : Int)) (fun k => ?_) ih
      simp only [laws_markIntS.l0]
      rw [if_pos (by rw [hlen]; omega), if_pos (by omega), w1, succ_cast hi (by omega), Int.toNat_natCast, marksI_step v l hi]) 0 (Nat.zero_le _)
  have e : marksI v 0 ++ l.drop 0 = l := by simp [marksI]
  rw [e] at q
  simpa [laws_markIntS.f] using q

theorem heldIntS_ev (n : Nat) (v : Int) (h : n ≤ 1152921504606846976) (h0 : 0 ≤ v) (h1 : v ≤ 1152921504606846976) : Ev (fun k => laws_heldIntS.f k (marksI v n) v) (v + (n : Int)) := by
  have hl := marksI_length v n
  have q := ev_up (n := n) (loop := fun k i => laws_heldIntS.l0 k (marksI v n) (v + (i : Int)) (i : Int)) (r := fun _ => v + (n : Int))
    (Ev.step (f := fun _ => some (v + (n : Int))) (fun k => by simp only [laws_heldIntS.l0]; rw [if_neg (by rw [hl]; omega)]) (Ev.now _))
    (fun i hi ih => by
      have w1 : wrap64 (v + (i : Int) + 1) = v + ((i + 1 : Nat) : Int) := by rw [wrap_id (by omega) (by omega)]; omega
      refine Ev.step (f := fun k => laws_heldIntS.l0 k (marksI v n) (v + ((i + 1 : Nat) : Int)) ((i + 1 : Nat) : Int)) (fun k => ?_) ih
      simp only [laws_heldIntS.l0]
      rw [if_pos (by rw [hl]; omega), if_pos (by omega), rd_at (by rw [hl]; exact hi), marksI_get, if_pos rfl, w1, succ_cast hi (by omega)]) 0 (Nat.zero_le _)
  simpa [laws_heldIntS.f] using q

theorem markParty_ev (n : Int) (l : List Pr) (h : l.length ≤ 1152921504606846976) : Ev (fun k => laws_markParty.f k n l 1) (1 + 2 * (l.length : Int), marksP 1 l.length) := by
  unfold laws_markParty.f
  exact Ev.bind (f := fun _ bt => some (bt.1, bt.2)) (markPairS_ev l 1 h (by omega) (by omega)) (Ev.now _)

end Go.Proofs.Ytdkmkcgghhncdaa.Plain
/- The program's FirstSeating returns what the reference's returns, for all arguments. No condition. -/
namespace Go.Proofs.Ytdkmkcgghhncdaa.Pure
open Go.RowKit Go.Proofs.YtdkmkcgghhncdaaW.PrintWords Go.Proofs.YtdkmkcgghhncdaaW.PrintLast
set_option linter.unusedVariables false
open Q Plain

/-- The first seating, if there is one. -/
def tell (n : Int) (l : List Pr) : List Int × Bool := if party n l = true then (if n ≤ 9 then ((((allR n.toNat (adj l) true).head?).map encR).getD [], (allR n.toNat (adj l) true).head?.isSome) else ([], false)) else ([], false)

theorem allR_len {n : Nat} (f : Nat → Nat → Bool) : ∀ x ∈ allR n f true, x.length = n := by
  intro x hx
  unfold allR at hx
  rw [if_pos rfl] at hx
  have hx2 := (List.mem_filter.1 hx).1
  by_cases z : 0 < n
  · rw [if_pos z] at hx2
    have := whole_length n f (n - 1) [0] x hx2
    rw [List.length_singleton] at this
    omega
  · rw [if_neg z] at hx2
    cases hx2
theorem impl_ev (n : Int) (l : List Pr) (h : l.length ≤ 9223372036854775807) : Ev (fun k => impl_FirstSeating.f k n l) (tell n l) := by
  unfold impl_FirstSeating.f impl_isSeated.f tell
  have hS : Ev (fun k => (impl_IsParty.f k n l).bind fun t => if t = true then some (decide (n ≤ 9)) else some false) (party n l && decide (n ≤ 9)) := by
    refine Ev.bind (isParty_ev n l h) ?_
    refine ev_if (fun b => ?_) (fun b => ?_)
    · rw [b, Bool.true_and]; exact Ev.now _
    · rw [show party n l = false by simpa using b]; exact Ev.now _
  refine Ev.bind hS ?_
  by_cases b : party n l = true
  rotate_left
  · rw [if_neg b, show party n l = false by simpa using b]; exact Ev.now _
  rw [if_pos b, b, Bool.true_and]
  by_cases b9 : n ≤ 9
  rotate_left
  · rw [if_neg b9, decide_eq_false b9]; exact Ev.now _
  rw [if_pos b9, decide_eq_true b9]
  refine ev_if (fun _ => ?_) (fun c => absurd rfl c)
  obtain ⟨m, rfl, hm, hr, _⟩ := party_right b
  rw [Int.toNat_natCast]
  refine ev_if (fun c => ?_) (fun c => ?_)
  · rw [allR_few (by omega)]
    exact Ev.now _
  · have h3 : 3 ≤ m := by omega
    refine Ev.bind (table_ev hm hr h) ?_
    have q := rows_ev (n := m) hm (adj l) (impl_table_isTold.f (tabF m (adj l))) (toldI (adj l)) (fun b hb hx => isTold_eq hm h3 (adj l) hb hx) (m - 1) [0] (by simp; omega) (by simp; omega)
    rw [filter_told h3] at q
    refine Ev.bind q ?_
    have hlen := allR_len (n := m) (adj l)
    cases hh : (allR m (adj l) true).head? with
    | none => exact Ev.now _
    | some x =>
      have hx := hlen x (List.mem_of_mem_head? (by rw [hh]; rfl))
      refine ev_if (fun _ => ?_) (fun c => absurd rfl c)
      refine ev_if (fun _ => Ev.now _) (fun c => absurd (show 0 < (encR x).length by rw [encR_length]; omega) c)

theorem spec_ev (n : Int) (l : List Pr) (h : l.length ≤ 9223372036854775807) : Ev (fun k => spec_FirstSeating.f k n l) (tell n l) := by
  unfold spec_FirstSeating.f spec_taFew.f tell
  have hS : Ev (fun k => (spec_paGood.f k n l).bind fun t => if t = true then some (decide (n ≤ 9)) else some false) (party n l && decide (n ≤ 9)) := by
    refine Ev.bind (paGood_ev n l h) ?_
    refine ev_if (fun b => ?_) (fun b => ?_)
    · rw [b, Bool.true_and]; exact Ev.now _
    · rw [show party n l = false by simpa using b]; exact Ev.now _
  refine Ev.bind hS ?_
  by_cases b : party n l = true
  rotate_left
  · rw [if_neg b, show party n l = false by simpa using b]; exact Ev.now _
  rw [if_pos b, b, Bool.true_and]
  by_cases b9 : n ≤ 9
  rotate_left
  · rw [if_neg b9, decide_eq_false b9]; exact Ev.now _
  rw [if_pos b9, decide_eq_true b9]
  refine ev_if (fun _ => ?_) (fun c => absurd rfl c)
  obtain ⟨m, rfl, hm, hr, _⟩ := party_right b
  rw [Int.toNat_natCast]
  have q : Ev (fun k => spec_taAll.f k (m : Int) l true) (appR (0, []) (allR m (adj l) true)) := by
    unfold spec_taAll.f
    exact Ev.bind (paTable_ev hm hr h) (taAll_ev (by omega) (adj l) true)
  refine Ev.bind q ?_
  have e : ((appR (0, []) (allR m (adj l) true)).2, decide ((appR (0, []) (allR m (adj l) true)).1 > 0)) = ((((allR m (adj l) true).head?).map encR).getD [], (allR m (adj l) true).head?.isSome) := by
    unfold appR
    cases allR m (adj l) true with
    | nil => rfl
    | cons x t =>
      have : decide ((0 : Int) + (((x :: t).length : Nat) : Int) > 0) = true := decide_eq_true (by simp only [List.length_cons]; omega)
      simp only [this]
      rfl
  rw [e]
  exact Ev.now _

theorem tell_len (n : Int) (l : List Pr) : (tell n l).1.length ≤ 12 := by
  unfold tell
  by_cases b : party n l = true
  · rw [if_pos b]
    by_cases c : n ≤ 9
    · rw [if_pos c]
      obtain ⟨m, rfl, hm, _⟩ := party_right b
      rw [Int.toNat_natCast]
      cases hh : (allR m (adj l) true).head? with
      | none => simp
      | some x =>
        have hx : x ∈ allR m (adj l) true := List.mem_of_mem_head? (by rw [hh]; rfl)
        have := allR_len (n := m) (adj l) x hx
        simp only [Option.map_some, Option.getD_some, encR_length]
        omega
    · rw [if_neg c]; simp
  · rw [if_neg b]; simp

theorem FnExactFirstSeating : laws_FnExactFirstSeating.Pure := by
  intro n l _ hl _
  refine Ev.rounds (g := fun k => laws_FnExactFirstSeating.f k n l) ?_
  unfold laws_FnExactFirstSeating.f
  refine ev_bind0 (szParty_eq n l 1048576 (by omega) (by omega) hl) ?_
  refine ev_if (fun _ => Ev.now _) (fun hb => ?_)
  have hs : l.length ≤ 1048576 := by
    by_cases h : (1048576 : Int) < (l.length : Int)
    · rw [if_pos h] at hb; omega
    · omega
  have hTl := toParty_ev n l (by omega)
  have hl2 : (l.map toP).length ≤ 1048576 := by rw [List.length_map]; exact hs
  have hS := spec_ev n (l.map toP) (by omega)
  have hI := impl_ev n (l.map toP) (by omega)
  have hp := tell_len n (l.map toP)
  generalize tell n (l.map toP) = z at hS hI hp
  obtain ⟨ps, ok1⟩ := z
  replace hp : ps.length ≤ 12 := hp
  refine Ev.bind hTl ?_
  refine Ev.bind hS ?_
  refine Ev.bind hTl ?_
  refine Ev.bind hI ?_
  refine Ev.bind (eqIntS_ev ps (by omega)) ?_
  refine ev_if (fun _ => ?_) (fun h => absurd rfl h)
  show Ev (fun k => laws_FnExactFirstSeating.j0 k ps ok1 ps ok1 (ok1 != ok1) n l n (l.map toP)) true
  rw [show (ok1 != ok1) = false by simp]
  refine Ev.step (f := fun k => (laws_toParty.f k n l).bind fun bt458 => ((laws_eqParty.f k n (l.map toP) bt458.1 bt458.2).bind fun t462 => (if t462 = true then ((laws_markParty.f k n (l.map toP) 1).bind fun bt463 => (if bt463.1 < 0 then (laws_FnExactFirstSeating.j1 k ps ok1 ps true n l) else ((laws_eqIntS.f k ps ps).bind fun t465 => (if t465 = true then (laws_FnExactFirstSeating.j1 k ps ok1 ps (ok1 != ok1) n l) else (laws_FnExactFirstSeating.j1 k ps ok1 ps true n l))))) else (some false)))) (fun k => by simp only [laws_FnExactFirstSeating.j0]; rfl) ?_
  refine Ev.bind hTl ?_
  refine Ev.bind (eqParty_ev n (l.map toP) (by simp only [List.length_map]; omega)) ?_
  refine ev_if (fun _ => ?_) (fun h => absurd rfl h)
  refine Ev.bind (markParty_ev n (l.map toP) (by simp only [List.length_map]; omega)) ?_
  refine ev_if (fun (q : (1 + 2 * ((l.map toP).length : Int)) < 0) => by omega) (fun _ => ?_)
  refine Ev.bind (eqIntS_ev ps (by omega)) ?_
  refine ev_if (fun _ => ?_) (fun h => absurd rfl h)
  show Ev (fun k => laws_FnExactFirstSeating.j1 k ps ok1 ps (ok1 != ok1) n l) true
  rw [show (ok1 != ok1) = false by simp]
  refine Ev.step (f := fun k => (laws_markIntS.f k ps 1).bind fun bt466 => ((laws_heldIntS.f k bt466.2 1).bind fun t468 => (if t468 < 0 then (some false) else (if t468 = bt466.1 then ((laws_toParty.f k n l).bind fun bt469 => ((impl_FirstSeating.f k bt469.1 bt469.2).bind fun bt473 => ((laws_eqIntS.f k bt473.1 ps).bind fun t477 => (if t477 = true then (laws_FnExactFirstSeating.j2 k bt466.2 bt466.1 (bt473.2 != ok1)) else (laws_FnExactFirstSeating.j2 k bt466.2 bt466.1 true))))) else (some false))))) (fun k => by simp only [laws_FnExactFirstSeating.j1]; rfl) ?_
  refine Ev.bind (markIntS_ev ps 1 (by omega) (by omega) (by omega)) ?_
  refine Ev.bind (heldIntS_ev _ 1 (by omega) (by omega) (by omega)) ?_
  refine ev_if (fun (q : (1 + ((ps.length : Nat) : Int)) < 0) => by omega) (fun _ => ?_)
  refine ev_if (fun _ => ?_) (fun h => absurd rfl h)
  refine Ev.bind hTl ?_
  refine Ev.bind hI ?_
  refine Ev.bind (eqIntS_ev ps (by omega)) ?_
  refine ev_if (fun _ => ?_) (fun h => absurd rfl h)
  show Ev (fun k => laws_FnExactFirstSeating.j2 k (marksI 1 ps.length) (1 + (ps.length : Int)) (ok1 != ok1)) true
  rw [show (ok1 != ok1) = false by simp]
  refine Ev.step (f := fun k => (laws_heldIntS.f k (marksI 1 ps.length) 1).bind fun t478 => (if t478 < 0 then (some false) else (if t478 = (1 + (ps.length : Int)) then (some true) else (some false)))) (fun k => by simp only [laws_FnExactFirstSeating.j2]; rfl) ?_
  refine Ev.bind (heldIntS_ev _ 1 (by omega) (by omega) (by omega)) ?_
  refine ev_if (fun (q : (1 + ((ps.length : Nat) : Int)) < 0) => by omega) (fun _ => ?_)
  refine ev_if (fun _ => ?_) (fun h => absurd rfl h)
  exact Ev.now _
end Go.Proofs.Ytdkmkcgghhncdaa.Pure
