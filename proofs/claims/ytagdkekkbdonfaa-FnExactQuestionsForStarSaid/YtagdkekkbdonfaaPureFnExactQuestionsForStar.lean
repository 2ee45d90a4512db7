import Derived.Test.YtagdkekkbdonfaaQ0
import Derived.Test.YtagdkekkbdonfaaQ3
import Derived.Test.YtagdkekkbdonfaaQ9
import Derived.Test.YtagdkekkbdonfaaQ22
import Derived.Test.YtagdkekkbdonfaaQ26
import Derived.Test.YtagdkekkbdonfaaQ27
import Derived.Test.YtagdkekkbdonfaaQ29
import Derived.Test.YtagdkekkbdonfaaSayFnExactQuestionsForStar
/- Plain lemmas over rounds, lists and whole numbers, for the pure statements of this seat. No condition. -/
namespace Go.Proofs.Ytagdkekkbdonfaa.Plain
open Go.RowKit Go.Proofs.YtagdkekkbdonfaaW.PrintWords Go.Proofs.YtagdkekkbdonfaaW.PrintLast
set_option linter.unusedVariables false

theorem wrap_id {x : Int} (h0 : -9223372036854775808 ≤ x) (h1 : x ≤ 9223372036854775807) : wrap64 x = x := by
  unfold wrap64
  omega

theorem rd_at {l : List Int} {i : Nat} (h : i < l.length) : rd l (i : Int) = l[i] := by
  simp [rd, List.getD, h]

theorem ev_some {α : Type} {g : Nat → Option α} {r : α} (h : ∀ k, g k = some r) : Ev g r := ⟨0, fun k _ => h k⟩

theorem ev_bind0 {α β : Type} {g : Option α} {f : Nat → α → Option β} {a : α} {r : β} (h : g = some a) (k : Ev (fun n => f n a) r) : Ev (fun n => g.bind (f n)) r := by
  obtain ⟨K, hK⟩ := k
  refine ⟨K, fun n hn => ?_⟩
  show g.bind (f n) = some r
  rw [h]
  exact hK n hn

theorem ev_if {α : Type} {c : Prop} [Decidable c] {f g : Nat → Option α} {r : α} (hf : c → Ev f r) (hg : ¬ c → Ev g r) : Ev (fun n => if c then f n else g n) r := by
  by_cases h : c
  · obtain ⟨K, hK⟩ := hf h
    exact ⟨K, fun n hn => (if_pos h).trans (hK n hn)⟩
  · obtain ⟨K, hK⟩ := hg h
    exact ⟨K, fun n hn => (if_neg h).trans (hK n hn)⟩

/-- A loop over an index, from any index on, in one shape. -/
theorem ev_up {α : Type} {n : Nat} {loop : Nat → Nat → Option α} {r : Nat → α} (hend : Ev (fun k => loop k n) (r n)) (hstep : ∀ i, i < n → (Ev (fun k => loop k (i + 1)) (r (i + 1)) → Ev (fun k => loop k i) (r i))) :
    ∀ i, i ≤ n → Ev (fun k => loop k i) (r i) := by
  intro i hi
  have : ∀ d i, i ≤ n → n - i = d → Ev (fun k => loop k i) (r i) := by
    intro d
    induction d with
    | zero =>
      intro i hi hd
      have e : i = n := by omega
      rw [e]; exact hend
    | succ d ih =>
      intro i hi hd
      exact hstep i (by omega) (ih (i + 1) (by omega) (by omega))
  exact this (n - i) i hi rfl
/-- The same from a first index on. -/
theorem ev_from {α : Type} {lo n : Nat} {loop : Nat → Nat → Option α} {r : Nat → α} (hend : Ev (fun k => loop k n) (r n)) (hstep : ∀ i, lo ≤ i → i < n → (Ev (fun k => loop k (i + 1)) (r (i + 1)) → Ev (fun k => loop k i) (r i))) :
    ∀ i, lo ≤ i → i ≤ n → Ev (fun k => loop k i) (r i) := by
  have : ∀ d i, lo ≤ i → i ≤ n → n - i = d → Ev (fun k => loop k i) (r i) := by
    intro d
    induction d with
    | zero =>
      intro i _ hi hd
      have e : i = n := by omega
      rw [e]; exact hend
    | succ d ih =>
      intro i h0 hi hd
      exact hstep i h0 (by omega) (ih (i + 1) (by omega) (by omega) (by omega))
  exact fun i h0 hi => this (n - i) i h0 hi rfl

theorem all_step (f : Nat → Bool) {m i : Nat} (h : i < m) : ((List.range m).drop i).all f = (f i && ((List.range m).drop (i + 1)).all f) := by
  rw [List.drop_eq_getElem_cons (by simpa using h), List.all_cons, List.getElem_range]
theorem all_end (f : Nat → Bool) {m i : Nat} (h : m ≤ i) : ((List.range m).drop i).all f = true := by
  rw [List.drop_of_length_le (by simpa using h)]; rfl
theorem succ_cast {i n : Nat} (h : i < n) (hn : n ≤ 9223372036854775807) : wrap64 ((i : Int) + 1) = ((i + 1 : Nat) : Int) := by
  rw [wrap_id (by omega) (by omega)]; rfl
theorem pred_cast {i : Nat} (h : 1 ≤ i) (hn : i ≤ 9223372036854775807) : wrap64 ((i : Int) - 1) = ((i - 1 : Nat) : Int) := by
  rw [wrap_id (by omega) (by omega)]; omega
end Go.Proofs.Ytagdkekkbdonfaa.Plain

/- The law's own functions over lists of whole numbers: copies, equality, bounds. No condition but lengths that fit. -/
namespace Go.Proofs.Ytagdkekkbdonfaa.Plain
open Go.RowKit Go.Proofs.YtagdkekkbdonfaaW.PrintWords Go.Proofs.YtagdkekkbdonfaaW.PrintLast
set_option linter.unusedVariables false
open Q

theorem copy_step (l : List Int) (i : Nat) (h : i < l.length) :
    (l.take i ++ List.replicate (l.length - i) (0 : Int)).set ((i : Int)).toNat (rd l (i : Int)) = l.take (i + 1) ++ List.replicate (l.length - (i + 1)) (0 : Int) := by
  have e : l.length - i = (l.length - (i + 1)) + 1 := by omega
  have hl : (l.take i).length = i := by simp; omega
  rw [Int.toNat_natCast, rd_at h, e, List.replicate_succ, List.set_append_right _ _ (by omega), hl, Nat.sub_self, List.set_cons_zero, List.take_succ_eq_append_getElem h, List.append_assoc]
  rfl

theorem toIntS_ev (l : List Int) (h : l.length ≤ 35184372088832) : Ev (fun k => laws_toIntS.f k l) l := by
  refine Ev.congr (f := fun k => laws_toIntS.l0 k l (List.replicate l.length 0) 0) (fun k => ?_) ?_
  · unfold laws_toIntS.f
    rw [if_pos (by omega), if_pos (by omega), Int.toNat_natCast]
  · have q := ev_up (n := l.length) (loop := fun k i => laws_toIntS.l0 k l (l.take i ++ List.replicate (l.length - i) 0) (i : Int)) (r := fun _ => l)
      (Ev.step (f := fun _ => some l) (fun k => by simp [laws_toIntS.l0]) (Ev.now l))
      (fun i hi ih => Ev.step (f := fun k => laws_toIntS.l0 k l (l.take (i + 1) ++ List.replicate (l.length - (i + 1)) 0) ((i + 1 : Nat) : Int)) (fun k => by
        simp only [laws_toIntS.l0]
        rw [if_pos (by omega), if_pos (by omega), if_pos (by simp; omega), copy_step l i hi, succ_cast hi (by omega)]) ih) 0 (Nat.zero_le _)
    simpa using q

theorem eqIntS_ev (l : List Int) (h : l.length ≤ 9223372036854775807) : Ev (fun k => laws_eqIntS.f k l l) true := by
  refine Ev.congr (f := fun k => laws_eqIntS.l0 k l l 0) (fun k => ?_) ?_
  · unfold laws_eqIntS.f
    rw [if_pos rfl]
  · exact ev_up (n := l.length) (loop := fun k i => laws_eqIntS.l0 k l l (i : Int)) (r := fun _ => true)
      (Ev.step (f := fun _ => some true) (fun k => by simp [laws_eqIntS.l0]) (Ev.now true))
      (fun i hi ih => Ev.step (f := fun k => laws_eqIntS.l0 k l l ((i + 1 : Nat) : Int)) (fun k => by
        simp only [laws_eqIntS.l0]
        rw [if_pos (by omega), if_pos (by omega), if_pos (by omega), if_pos trivial, succ_cast hi h]) ih) 0 (Nat.zero_le _)

theorem l1In_eq (a b c : Int) : spec_l1In.f a b c = some (decide (b ≤ a) && decide (a ≤ c)) := by
  unfold spec_l1In.f
  by_cases h : b ≤ a <;> simp [h]

theorem within_eq (a b c : Int) : impl_within.f a b c = some (decide (b ≤ a) && decide (a ≤ c)) := by
  unfold impl_within.f
  by_cases h : b ≤ a <;> simp [h]

theorem l1All_ev (l : List Int) (lo hi : Int) (h : l.length ≤ 9223372036854775807) : Ev (fun k => spec_l1All.f k l lo hi) (l.all fun x => decide (lo ≤ x) && decide (x ≤ hi)) := by
  have q := ev_up (n := l.length) (loop := fun k i => spec_l1All.l0 k lo hi l (l.length : Int) (i : Int)) (r := fun i => (l.drop i).all fun x => decide (lo ≤ x) && decide (x ≤ hi))
    (Ev.step (f := fun _ => some true) (fun k => by simp [spec_l1All.l0]) (by simpa using Ev.now true))
    (fun i hi' ih => by
      have e : (l.drop i).all (fun x => decide (lo ≤ x) && decide (x ≤ hi)) = ((decide (lo ≤ l[i]) && decide (l[i] ≤ hi)) && (l.drop (i + 1)).all fun x => decide (lo ≤ x) && decide (x ≤ hi)) := by
        rw [List.drop_eq_getElem_cons hi', List.all_cons]
      rw [e]
      cases hb : (decide (lo ≤ l[i]) && decide (l[i] ≤ hi)) with
      | true =>
        refine Ev.step (f := fun k => spec_l1All.l0 k lo hi l (l.length : Int) ((i + 1 : Nat) : Int)) (fun k => ?_) (by simpa using ih)
        simp only [spec_l1All.l0]
        rw [if_pos (by omega), if_pos (by omega), if_pos (by omega), l1In_eq, rd_at hi', hb, Option.bind_some, if_pos rfl, succ_cast hi' h]
      | false =>
        refine Ev.step (f := fun _ => some false) (fun k => ?_) (by simpa using Ev.now false)
        simp only [spec_l1All.l0]
        rw [if_pos (by omega), if_pos (by omega), if_pos (by omega), l1In_eq, rd_at hi', hb, Option.bind_some, if_neg (by simp)]) 0 (Nat.zero_le _)
  simpa [spec_l1All.f] using q

theorem szIntS_eq (l : List Int) (a : Int) (h0 : 0 ≤ a) (h1 : a ≤ 1048576) (h : l.length ≤ 9223372036854775807) : laws_szIntS.f l a = some (if a < (l.length : Int) then -1 else a - l.length) := by
  unfold laws_szIntS.f
  rw [wrap_id (by omega) (by omega)]
  by_cases hl : a < (l.length : Int)
  · rw [if_pos (by omega), if_pos hl]
  · rw [if_neg (by omega), if_neg hl]
end Go.Proofs.Ytagdkekkbdonfaa.Plain

/- Is a number in a list: the reference's way. No condition but a length that fits. -/
namespace Go.Proofs.Ytagdkekkbdonfaa.Plain
open Go.RowKit Go.Proofs.YtagdkekkbdonfaaW.PrintWords Go.Proofs.YtagdkekkbdonfaaW.PrintLast
set_option linter.unusedVariables false
open Q

theorem l1Has_ev (l : List Int) (a : Int) (h : l.length ≤ 9223372036854775807) : Ev (fun k => spec_l1Has.f k l a) (l.contains a) := by
  have q := ev_up (n := l.length) (loop := fun k i => spec_l1Has.l0 k a l (l.length : Int) (i : Int)) (r := fun i => (l.drop i).contains a)
    (Ev.step (f := fun _ => some false) (fun k => by simp [spec_l1Has.l0]) (by simpa using Ev.now false))
    (fun i hi ih => by
      rw [List.drop_eq_getElem_cons hi, List.contains_cons]
      by_cases e : l[i] = a
      · refine Ev.step (f := fun _ => some true) (fun k => ?_) (by rw [e]; simpa using Ev.now true)
        simp only [spec_l1Has.l0]
        rw [if_pos (by omega), if_pos (by omega), if_pos (by omega), rd_at hi, if_pos e]
      · refine Ev.step (f := fun k => spec_l1Has.l0 k a l (l.length : Int) ((i + 1 : Nat) : Int)) (fun k => ?_) ?_
        · simp only [spec_l1Has.l0]
          rw [if_pos (by omega), if_pos (by omega), if_pos (by omega), rd_at hi, if_neg e, succ_cast hi h]
        · have : (a == l[i]) = false := by simpa using fun q => e q.symm
          rw [this, Bool.false_or]; exact ih) 0 (Nat.zero_le _)
  simpa [spec_l1Has.f] using q
end Go.Proofs.Ytagdkekkbdonfaa.Plain

/- Lists that hold each number less than n once: both sides' tests tell the same. No condition. -/
namespace Go.Proofs.Ytagdkekkbdonfaa.Plain
open Go.RowKit Go.Proofs.YtagdkekkbdonfaaW.PrintWords Go.Proofs.YtagdkekkbdonfaaW.PrintLast
set_option linter.unusedVariables false
open Q

end Go.Proofs.Ytagdkekkbdonfaa.Plain

/- slices.Index and slices.Contains over whole numbers. No condition but a length that fits. -/
namespace Go.Proofs.Ytagdkekkbdonfaa.Plain
open Go.RowKit Go.Proofs.YtagdkekkbdonfaaW.PrintWords Go.Proofs.YtagdkekkbdonfaaW.PrintLast
set_option linter.unusedVariables false
open Q

/-- The first place of a number, -1 if there is none. -/
def idxI : List Int → Int → Int
  | [], _ => -1
  | x :: t, a => if a = x then 0 else if idxI t a < 0 then -1 else idxI t a + 1

theorem idxI_range : ∀ (l : List Int) (a : Int), -1 ≤ idxI l a ∧ idxI l a < l.length
  | [], _ => by simp [idxI]
  | x :: t, a => by
    have := idxI_range t a
    have hl : ((x :: t).length : Int) = t.length + 1 := by simp
    unfold idxI
    split
    · omega
    · split <;> omega

theorem idxI_mem : ∀ (l : List Int) (a : Int), decide (idxI l a ≥ 0) = l.contains a
  | [], a => by simp [idxI]
  | x :: t, a => by
    have ih := idxI_mem t a
    have hr := idxI_range t a
    rw [List.contains_cons]
    unfold idxI
    by_cases e : a = x
    · rw [if_pos e, e]; simp
    · have e2 : (a == x) = false := by simpa using e
      rw [if_neg e, e2, Bool.false_or, ← ih]
      by_cases h : idxI t a < 0
      · rw [if_pos h]
        have : ¬ (idxI t a ≥ 0) := by omega
        simp [this]
      · rw [if_neg h]
        have h1 : idxI t a ≥ 0 := by omega
        have h2 : idxI t a + 1 ≥ 0 := by omega
        simp [h1, h2]

theorem index_ev (l : List Int) (a : Int) (h : l.length ≤ 9223372036854775807) : Ev (fun k => slices_Index_int_int.f k l a) (idxI l a) := by
  have q := ev_up (n := l.length) (loop := fun k i => slices_Index_int_int.l0 k l a (l.length : Int) (i : Int)) (r := fun i => if idxI (l.drop i) a < 0 then -1 else (i : Int) + idxI (l.drop i) a)
    (Ev.step (f := fun _ => some (-1)) (fun k => by simp [slices_Index_int_int.l0]) (by simpa [idxI] using Ev.now (-1 : Int)))
    (fun i hi ih => by
      rw [List.drop_eq_getElem_cons hi]
      by_cases e : a = l[i]
      · refine Ev.step (f := fun _ => some (i : Int)) (fun k => ?_) ?_
        · simp only [slices_Index_int_int.l0]
          rw [if_pos (by omega), if_pos (by omega), if_pos (by omega), rd_at hi, if_pos e]
        · have : idxI (l[i] :: l.drop (i + 1)) a = 0 := by unfold idxI; rw [if_pos e]
          rw [this]; simpa using Ev.now (i : Int)
      · refine Ev.step (f := fun k => slices_Index_int_int.l0 k l a (l.length : Int) ((i + 1 : Nat) : Int)) (fun k => ?_) ?_
        · simp only [slices_Index_int_int.l0]
          rw [if_pos (by omega), if_pos (by omega), if_pos (by omega), rd_at hi, if_neg e, succ_cast hi h]
        · have : idxI (l[i] :: l.drop (i + 1)) a = if idxI (l.drop (i + 1)) a < 0 then -1 else idxI (l.drop (i + 1)) a + 1 := by rw [idxI]; rw [if_neg e]
          rw [this]
          by_cases h2 : idxI (l.drop (i + 1)) a < 0
          · rw [if_pos h2] at ih ⊢; rw [if_pos (by omega)]; exact ih
          · rw [if_neg h2] at ih ⊢; rw [if_neg (by omega)]
            have e3 : ((i + 1 : Nat) : Int) + idxI (l.drop (i + 1)) a = (i : Int) + (idxI (l.drop (i + 1)) a + 1) := by omega
            rw [← e3]; exact ih) 0 (Nat.zero_le _)
  have e : (if idxI (l.drop 0) a < 0 then -1 else ((0 : Nat) : Int) + idxI (l.drop 0) a) = idxI l a := by
    have := idxI_range l a
    rw [List.drop_zero]
    split <;> omega
  rw [e] at q
  exact q

theorem contains_ev (l : List Int) (a : Int) (h : l.length ≤ 9223372036854775807) : Ev (fun k => slices_Contains_int_int.f k l a) (l.contains a) := by
  unfold slices_Contains_int_int.f
  refine Ev.bind (index_ev l a h) ?_
  rw [idxI_mem]; exact Ev.now _
end Go.Proofs.Ytagdkekkbdonfaa.Plain

/- Is a list strictly increasing. No condition but a length that fits. -/
namespace Go.Proofs.Ytagdkekkbdonfaa.Plain
open Go.RowKit Go.Proofs.YtagdkekkbdonfaaW.PrintWords Go.Proofs.YtagdkekkbdonfaaW.PrintLast
set_option linter.unusedVariables false
open Q

/-- A number is greater than the one before. -/
def risesAt (l : List Int) (i : Nat) : Bool := decide (rd l ((i : Int) - 1) < rd l (i : Int))
def rising (l : List Int) : Bool := ((List.range l.length).drop 1).all (risesAt l)

theorem isRising_ev (l : List Int) (h : l.length ≤ 9223372036854775806) : Ev (fun k => impl_isRising.f k l) (rising l) := by
  have q := ev_from (lo := 1) (n := max 1 l.length) (loop := fun k i => impl_isRising.l0 k l (i : Int)) (r := fun i => ((List.range l.length).drop i).all (risesAt l))
    (Ev.step (f := fun _ => some true) (fun k => by simp only [impl_isRising.l0]; rw [if_neg (by omega)]) (by rw [all_end _ (by omega)]; exact Ev.now true))
    (fun i h0 hi ih => by
      have hl : i < l.length := by omega
      rw [all_step _ hl]
      have e : risesAt l i = decide (l[i-1] < l[i]) := by
        unfold risesAt
        rw [show ((i : Int) - 1) = ((i - 1 : Nat) : Int) by omega, rd_at hl, rd_at (by omega : i - 1 < l.length)]
      rw [e]
      by_cases c : l[i] ≤ l[i-1]
      · refine Ev.step (f := fun _ => some false) (fun k => ?_) (by rw [decide_eq_false (by omega)]; simpa using Ev.now false)
        simp only [impl_isRising.l0]
        rw [pred_cast h0 (by omega), if_pos (by omega), if_pos (by omega), if_pos (by omega), if_pos (by omega), rd_at hl, rd_at (by omega : i - 1 < l.length), if_pos c]
      · refine Ev.step (f := fun k => impl_isRising.l0 k l ((i + 1 : Nat) : Int)) (fun k => ?_) (by rw [decide_eq_true (by omega), Bool.true_and]; exact ih)
        simp only [impl_isRising.l0]
        rw [pred_cast h0 (by omega), if_pos (by omega), if_pos (by omega), if_pos (by omega), if_pos (by omega), rd_at hl, rd_at (by omega : i - 1 < l.length), if_neg c, succ_cast hl (by omega)]) 1 (Nat.le_refl _) (by omega)
  simpa [impl_isRising.f, rising] using q

theorem rising_get {l : List Int} (h : rising l = true) : ∀ i, (hi : i + 1 < l.length) → l[i] < l[i+1] := by
  intro i hi
  unfold rising at h
  rw [List.all_eq_true] at h
  have hm : i + 1 ∈ (List.range l.length).drop 1 := by
    rw [List.mem_drop_iff_getElem]
    exact ⟨i, by simpa using hi, by simp; omega⟩
  have q := h _ hm
  unfold risesAt at q
  rw [show (((i + 1 : Nat) : Int) - 1) = ((i : Nat) : Int) by omega, rd_at hi, rd_at (by omega : i < l.length)] at q
  simpa using q

theorem rising_ge {l : List Int} (h : rising l = true) (lo : Int) (hlo : ∀ x ∈ l, lo ≤ x) : ∀ i, (hi : i < l.length) → lo + i ≤ l[i] := by
  intro i
  induction i with
  | zero => intro hi; have := hlo l[0] (List.getElem_mem hi); simpa using this
  | succ i ih =>
    intro hi
    have := ih (by omega)
    have := rising_get h i hi
    omega

theorem rising_len {l : List Int} (h : rising l = true) {lo hi : Int} (hb : ∀ x ∈ l, lo ≤ x ∧ x ≤ hi) (hne : l ≠ []) : (l.length : Int) ≤ hi - lo + 1 := by
  have hl : 0 < l.length := List.length_pos_iff.mpr hne
  have h1 := rising_ge h lo (fun x hx => (hb x hx).1) (l.length - 1) (by omega)
  have h2 := (hb l[l.length - 1] (List.getElem_mem (by omega))).2
  omega
end Go.Proofs.Ytagdkekkbdonfaa.Plain

/- Parties: both sides' tests, and the law's own functions over parties. No condition but lengths that fit. -/
namespace Go.Proofs.Ytagdkekkbdonfaa.Plain
open Go.RowKit Go.Proofs.YtagdkekkbdonfaaW.PrintWords Go.Proofs.YtagdkekkbdonfaaW.PrintLast
set_option linter.unusedVariables false
open Q

abbrev Pr := S71
abbrev rdP (l : List Pr) (i : Int) : Pr := rd_T71 l i

theorem rdP_at {l : List Pr} {i : Nat} (h : i < l.length) : rd_T71 l (i : Int) = l[i] := by
  simp [rd_T71, List.getD, h]

def pairOk (n : Int) (x : Pr) : Bool := decide (0 ≤ x.f0) && (decide (x.f0 < x.f1) && decide (x.f1 < n))
def lessB (x y : Pr) : Bool := decide (x.f0 < y.f0) || (decide (x.f0 = y.f0) && decide (x.f1 < y.f1))
/-- The pair at an index is right, and comes behind the one before. -/
def okAt (n : Int) (l : List Pr) (i : Nat) : Bool := pairOk n (rdP l i) && (decide (i = 0) || lessB (rdP l ((i : Int) - 1)) (rdP l i))
def party (n : Int) (l : List Pr) : Bool := (decide (0 ≤ n) && decide (n ≤ 12)) && (List.range l.length).all (okAt n l)

/-! What a party is, in words of numbers. -/
end Go.Proofs.Ytagdkekkbdonfaa.Plain

/- A party as a relation between people; sets of people as numbers; how many hold. Plain lemmas. No condition. -/
namespace Go.Proofs.Ytagdkekkbdonfaa.Plain
open Go.RowKit Go.Proofs.YtagdkekkbdonfaaW.PrintWords Go.Proofs.YtagdkekkbdonfaaW.PrintLast
set_option linter.unusedVariables false
open Q

/-- All pairs are right for n people. -/
def Right (n : Nat) (l : List Pr) : Prop := ∀ x ∈ l, 0 ≤ x.f0 ∧ x.f0 < x.f1 ∧ x.f1 < (n : Int)
theorem Right.take {n : Nat} {l : List Pr} (h : Right n l) (i : Nat) : Right n (l.take i) := fun x hx => h x (List.mem_of_mem_take hx)

/-! Sets of people as numbers. -/
/-! How many hold. -/
end Go.Proofs.Ytagdkekkbdonfaa.Plain

/- The law's own functions over parties, and the reference's test. No condition but lengths that fit. -/
namespace Go.Proofs.Ytagdkekkbdonfaa.Plain
open Go.RowKit Go.Proofs.YtagdkekkbdonfaaW.PrintWords Go.Proofs.YtagdkekkbdonfaaW.PrintLast
set_option linter.unusedVariables false
open Q

theorem eqPair_eq (x : Pr) : laws_eqPair.f x.f0 x.f1 x.f0 x.f1 = some true := by
  unfold laws_eqPair.f
  rw [if_pos rfl, if_pos rfl]

theorem eqPairS_ev (l : List Pr) (h : l.length ≤ 9223372036854775807) : Ev (fun k => laws_eqPairS.f k l l) true := by
  refine Ev.congr (f := fun k => laws_eqPairS.l0 k l l 0) (fun k => ?_) ?_
  · unfold laws_eqPairS.f
    rw [if_pos rfl]
  · exact ev_up (n := l.length) (loop := fun k i => laws_eqPairS.l0 k l l (i : Int)) (r := fun _ => true)
      (Ev.step (f := fun _ => some true) (fun k => by simp [laws_eqPairS.l0]) (Ev.now true))
      (fun i hi ih => Ev.step (f := fun k => laws_eqPairS.l0 k l l ((i + 1 : Nat) : Int)) (fun k => by
        simp only [laws_eqPairS.l0]
        rw [if_pos (by omega), if_pos (by omega), if_pos (by omega), rdP_at hi, eqPair_eq, Option.bind_some, if_pos rfl, succ_cast hi h]) ih) 0 (Nat.zero_le _)

end Go.Proofs.Ytagdkekkbdonfaa.Plain

/- The law's own functions over lists of lists of whole numbers. No condition but lengths that fit. -/
namespace Go.Proofs.Ytagdkekkbdonfaa.Plain
open Go.RowKit Go.Proofs.YtagdkekkbdonfaaW.PrintWords Go.Proofs.YtagdkekkbdonfaaW.PrintLast
set_option linter.unusedVariables false
open Q

theorem rdL_at {l : List (List Int)} {i : Nat} (h : i < l.length) : rd_L1 l (i : Int) = l[i] := by
  simp [rd_L1, List.getD, h]

/-- What is left of a bound behind all rows; -1 once it is passed. -/
def szR : List (List Int) → Int → Int
  | [], left => left
  | x :: t, left => if left < x.length then -1 else szR t (left - x.length)

theorem szR_len : ∀ (l : List (List Int)) (left : Int), 0 ≤ left → 0 ≤ szR l left → ∀ x ∈ l, (x.length : Int) ≤ left
  | [], _, _, _, x, hx => by simp at hx
  | y :: t, left, h0, h, x, hx => by
    unfold szR at h
    by_cases c : left < y.length
    · rw [if_pos c] at h; omega
    · rw [if_neg c] at h
      rcases List.mem_cons.1 hx with rfl | hx
      · omega
      · have := szR_len t (left - y.length) (by omega) h x hx
        omega

theorem szIntSS_ev (l : List (List Int)) (a : Int) (h0 : 0 ≤ a) (h1 : a ≤ 1048576) (h : l.length ≤ 9223372036854775807) (hx : ∀ x ∈ l, x.length ≤ 9223372036854775807) :
    Ev (fun k => laws_szIntSS.f k l a) (if a < (l.length : Int) then -1 else szR l (a - l.length)) := by
  refine Ev.congr (f := fun k => if a - (l.length : Int) < 0 then some (-1) else laws_szIntSS.l0 k l (a - (l.length : Int)) 0) (fun k => ?_) ?_
  · unfold laws_szIntSS.f
    rw [wrap_id (by omega) (by omega)]
  refine ev_if (fun c => by rw [if_pos (by omega)]; exact Ev.now _) (fun c => ?_)
  rw [if_neg (by omega)]
  have key : ∀ d i (left : Int), i ≤ l.length → l.length - i = d → 0 ≤ left → left ≤ 1048576 → Ev (fun k => laws_szIntSS.l0 k l left (i : Int)) (szR (l.drop i) left) := by
    intro d
    induction d with
    | zero =>
      intro i left hi hd _ _
      have e : i = l.length := by omega
      subst e
      refine Ev.step (f := fun _ => some left) (fun k => ?_) (by simpa [szR] using Ev.now left)
      simp [laws_szIntSS.l0]
    | succ d ih =>
      intro i left hi hd hl0 hl1
      have hil : i < l.length := by omega
      rw [List.drop_eq_getElem_cons hil]
      have hs := szIntS_eq l[i] left hl0 hl1 (hx _ (List.getElem_mem hil))
      unfold szR
      by_cases c2 : left < (l[i].length : Int)
      · rw [if_pos c2] at hs ⊢
        refine Ev.step (f := fun _ => some (-1)) (fun k => ?_) (Ev.now _)
        simp only [laws_szIntSS.l0]
        rw [if_pos (by omega), if_pos (by omega), rdL_at hil, hs, Option.bind_some, if_pos (by omega)]
      · rw [if_neg c2] at hs ⊢
        refine Ev.step (f := fun k => laws_szIntSS.l0 k l (left - l[i].length) ((i + 1 : Nat) : Int)) (fun k => ?_) (ih (i + 1) (left - l[i].length) (by omega) (by omega) (by omega) (by omega))
        simp only [laws_szIntSS.l0]
        rw [if_pos (by omega), if_pos (by omega), rdL_at hil, hs, Option.bind_some, if_neg (by omega), succ_cast hil h]
  simpa using key l.length 0 (a - l.length) (by omega) rfl (by omega) (by omega)

theorem copy_stepL {α : Type} (z : α) (l : List α) (i : Nat) (h : i < l.length) :
    (l.take i ++ List.replicate (l.length - i) z).set ((i : Int)).toNat l[i] = l.take (i + 1) ++ List.replicate (l.length - (i + 1)) z := by
  have e : l.length - i = (l.length - (i + 1)) + 1 := by omega
  have hl : (l.take i).length = i := by simp; omega
  rw [Int.toNat_natCast, e, List.replicate_succ, List.set_append_right _ _ (by omega), hl, Nat.sub_self, List.set_cons_zero, List.take_succ_eq_append_getElem h, List.append_assoc]
  rfl

theorem toIntSS_ev (l : List (List Int)) (h : l.length ≤ 11728124029610) (hx : ∀ x ∈ l, x.length ≤ 35184372088832) : Ev (fun k => laws_toIntSS.f k l) l := by
  refine Ev.congr (f := fun k => laws_toIntSS.l0 k l (List.replicate l.length []) 0) (fun k => ?_) ?_
  · unfold laws_toIntSS.f
    rw [if_pos (by omega), if_pos (by omega), Int.toNat_natCast]
  · have q := ev_up (n := l.length) (loop := fun k i => laws_toIntSS.l0 k l (l.take i ++ List.replicate (l.length - i) []) (i : Int)) (r := fun _ => l)
      (Ev.step (f := fun _ => some l) (fun k => by simp [laws_toIntSS.l0]) (Ev.now l))
      (fun i hi ih => by
        refine Ev.step (f := fun k => (laws_toIntS.f k l[i]).bind fun t => laws_toIntSS.l0 k l ((l.take i ++ List.replicate (l.length - i) []).set ((i : Int)).toNat t) ((i + 1 : Nat) : Int)) (fun k => ?_) ?_
        · simp only [laws_toIntSS.l0]
          rw [if_pos (by omega), if_pos (by omega), rdL_at hi]
          congr 1
          funext t
          rw [if_pos (by simp; omega), succ_cast hi (by omega)]
        · refine Ev.bind (toIntS_ev l[i] (hx _ (List.getElem_mem hi))) ?_
          rw [copy_stepL [] l i hi]; exact ih) 0 (Nat.zero_le _)
    simpa using q

theorem eqIntSS_ev (l : List (List Int)) (h : l.length ≤ 9223372036854775807) (hx : ∀ x ∈ l, x.length ≤ 9223372036854775807) : Ev (fun k => laws_eqIntSS.f k l l) true := by
  refine Ev.congr (f := fun k => laws_eqIntSS.l0 k l l 0) (fun k => ?_) ?_
  · unfold laws_eqIntSS.f
    rw [if_pos rfl]
  · exact ev_up (n := l.length) (loop := fun k i => laws_eqIntSS.l0 k l l (i : Int)) (r := fun _ => true)
      (Ev.step (f := fun _ => some true) (fun k => by simp [laws_eqIntSS.l0]) (Ev.now true))
      (fun i hi ih => by
        refine Ev.step (f := fun k => (laws_eqIntS.f k l[i] l[i]).bind fun t => if t = true then laws_eqIntSS.l0 k l l ((i + 1 : Nat) : Int) else some false) (fun k => ?_) ?_
        · simp only [laws_eqIntSS.l0]
          rw [if_pos (by omega), if_pos (by omega), if_pos (by omega), rdL_at hi, succ_cast hi h]
        · refine Ev.bind (eqIntS_ev l[i] (hx _ (List.getElem_mem hi))) ?_
          exact ev_if (fun _ => ih) (fun h => absurd rfl h)) 0 (Nat.zero_le _)
end Go.Proofs.Ytagdkekkbdonfaa.Plain

/- Fame: both sides' tests. No condition but lengths that fit. -/
namespace Go.Proofs.Ytagdkekkbdonfaa.Plain
open Go.RowKit Go.Proofs.YtagdkekkbdonfaaW.PrintWords Go.Proofs.YtagdkekkbdonfaaW.PrintLast
set_option linter.unusedVariables false
open Q

/-- A person's list is right. -/
def fameAt (n : Nat) (l : List (List Int)) (a : Nat) : Bool := rising (l.getD a []) && (((l.getD a []).all fun x => decide (0 ≤ x) && decide (x ≤ (n : Int) - 1)) && !(l.getD a []).contains (a : Int))
def fame (l : List (List Int)) : Bool := (decide ((1 : Int) ≤ (l.length : Int)) && decide ((l.length : Int) ≤ 12)) && (List.range l.length).all (fameAt l.length l)

theorem getD_at {α : Type} {l : List α} {i : Nat} (z : α) (h : i < l.length) : l.getD i z = l[i] := by simp [List.getD, h]

theorem fameAt_eq {n : Nat} {l : List (List Int)} {a : Nat} (h : a < l.length) : fameAt n l a = (rising l[a] && ((l[a].all fun x => decide (0 ≤ x) && decide (x ≤ (n : Int) - 1)) && !l[a].contains (a : Int))) := by
  unfold fameAt; rw [getD_at _ h]

theorem isFame_ev (l : List (List Int)) (h : l.length ≤ 1048576) (hx : ∀ x ∈ l, x.length ≤ 1048576) : Ev (fun k => impl_IsFame.f k l) (fame l) := by
  have q := ev_up (n := l.length) (loop := fun k i => impl_IsFame.l0 k l l (l.length : Int) (i : Int)) (r := fun i => (decide ((1 : Int) ≤ (l.length : Int)) && decide ((l.length : Int) ≤ 12)) && ((List.range l.length).drop i).all (fameAt l.length l))
    (Ev.step (f := fun _ => some (decide ((1 : Int) ≤ (l.length : Int)) && decide ((l.length : Int) ≤ 12))) (fun k => by
      simp only [impl_IsFame.l0]
      rw [if_neg (by omega), within_eq]; rfl) (by rw [all_end _ (Nat.le_refl _), Bool.and_true]; exact Ev.now _))
    (fun i hi ih => by
      have hxi := hx _ (List.getElem_mem hi)
      rw [all_step _ hi, fameAt_eq hi]
      refine Ev.step (f := fun k => (impl_isRising.f k l[i]).bind fun t => if t = true then (impl_areWithin.f l[i] 0 ((l.length : Int) - 1)).bind fun t => if t = true then (slices_Contains_int_int.f k l[i] (i : Int)).bind fun t => if t = true then some false else impl_IsFame.l0 k l l (l.length : Int) ((i + 1 : Nat) : Int) else some false else some false) (fun k => ?_) ?_
      · simp only [impl_IsFame.l0]
        rw [if_pos (by omega), if_pos (by omega), if_pos (by omega), rdL_at hi, succ_cast hi (by omega), wrap_id (x := (l.length : Int) - 1) (by omega) (by omega)]
      · refine Ev.bind (isRising_ev l[i] (by omega)) ?_
        cases hr : rising l[i] with
        | false => exact ev_some (fun _ => by simp)
        | true =>
          refine ev_if (fun _ => ?_) (fun h => absurd rfl h)
          refine ev_bind0 (a := l[i].all fun x => decide (0 ≤ x) && decide (x ≤ (l.length : Int) - 1)) rfl ?_
          cases ha : (l[i].all fun x => decide (0 ≤ x) && decide (x ≤ (l.length : Int) - 1)) with
          | false => exact ev_some (fun _ => by simp)
          | true =>
            refine ev_if (fun _ => ?_) (fun h => absurd rfl h)
            refine Ev.bind (contains_ev l[i] (i : Int) (by omega)) ?_
            cases hc : l[i].contains (i : Int) with
            | true => exact ev_some (fun _ => by simp)
            | false =>
              refine ev_if (fun h => by simp at h) (fun _ => ?_)
              simpa using ih) 0 (Nat.zero_le _)
  exact Ev.congr (f := fun k => impl_IsFame.l0 k l l (l.length : Int) 0) (fun k => rfl) (by simpa [fame] using q)

/-- The inner loop of the reference: from an index on, is the list rising; then the next person. -/
theorem haFame_l1 (n : Int) (x : List Int) (L : List (List Int)) (N a : Int) (h : x.length ≤ 1048576) (R : Bool) (ih : Ev (fun k => spec_haFame.l0 k n L N (wrap64 (a + 1))) R) :
    Ev (fun k => spec_haFame.l1 k n x 1 L N a) (rising x && R) := by
  have q := ev_from (lo := 1) (n := max 1 x.length) (loop := fun k i => spec_haFame.l1 k n x (i : Int) L N a) (r := fun i => ((List.range x.length).drop i).all (risesAt x) && R)
    (Ev.step (f := fun k => spec_haFame.l0 k n L N (wrap64 (a + 1))) (fun k => by simp only [spec_haFame.l1]; rw [if_neg (by omega)]) (by rw [all_end _ (by omega), Bool.true_and]; exact ih))
    (fun i h0 hi ih2 => by
      have hl : i < x.length := by omega
      rw [all_step _ hl]
      have e : risesAt x i = decide (x[i-1] < x[i]) := by
        unfold risesAt
        rw [show ((i : Int) - 1) = ((i - 1 : Nat) : Int) by omega, rd_at hl, rd_at (by omega : i - 1 < x.length)]
      rw [e]
      by_cases c : x[i-1] ≥ x[i]
      · refine Ev.step (f := fun _ => some false) (fun k => ?_) (by rw [decide_eq_false (by omega)]; simpa using Ev.now false)
        simp only [spec_haFame.l1]
        rw [pred_cast h0 (by omega), if_pos (by omega), if_pos (by omega), if_pos (by omega), if_pos (by omega), rd_at hl, rd_at (by omega : i - 1 < x.length), if_pos c]
      · refine Ev.step (f := fun k => spec_haFame.l1 k n x ((i + 1 : Nat) : Int) L N a) (fun k => ?_) (by rw [decide_eq_true (by omega), Bool.true_and]; exact ih2)
        simp only [spec_haFame.l1]
        rw [pred_cast h0 (by omega), if_pos (by omega), if_pos (by omega), if_pos (by omega), if_pos (by omega), rd_at hl, rd_at (by omega : i - 1 < x.length), if_neg c, succ_cast hl (by omega)]) 1 (Nat.le_refl _) (by omega)
  exact q

theorem haFame_ev (l : List (List Int)) (h : l.length ≤ 1048576) (hx : ∀ x ∈ l, x.length ≤ 1048576) : Ev (fun k => spec_haFame.f k l) (fame l) := by
  unfold spec_haFame.f fame
  refine ev_bind0 (l1In_eq _ _ _) ?_
  cases hb : (decide ((1 : Int) ≤ (l.length : Int)) && decide ((l.length : Int) ≤ 12)) with
  | false => exact ev_some (fun _ => by simp)
  | true =>
  refine ev_if (fun _ => ?_) (fun h => absurd rfl h)
  rw [Bool.true_and]
  have hn : 1 ≤ l.length ∧ l.length ≤ 12 := by
    simp only [Bool.and_eq_true, decide_eq_true_eq] at hb
    omega
  have q := ev_up (n := l.length) (loop := fun k i => spec_haFame.l0 k (l.length : Int) l (l.length : Int) (i : Int)) (r := fun i => ((List.range l.length).drop i).all (fameAt l.length l))
    (Ev.step (f := fun _ => some true) (fun k => by simp only [spec_haFame.l0]; rw [if_neg (by omega)]) (by rw [all_end _ (Nat.le_refl _)]; exact Ev.now _))
    (fun i hi ih => by
      have hxi := hx _ (List.getElem_mem hi)
      have hsucc : wrap64 ((i : Int) + 1) = ((i + 1 : Nat) : Int) := succ_cast hi (by omega)
      rw [all_step _ hi, fameAt_eq hi]
      have ih' : Ev (fun k => spec_haFame.l0 k (l.length : Int) l (l.length : Int) (wrap64 ((i : Int) + 1))) (((List.range l.length).drop (i + 1)).all (fameAt l.length l)) := by rw [hsucc]; exact ih
      have hj : ∀ t : Bool, Ev (fun k => spec_haFame.j1 k (l.length : Int) l[i] l (l.length : Int) (i : Int) t) (!t && (rising l[i] && ((List.range l.length).drop (i + 1)).all (fameAt l.length l))) := by
        intro t
        cases t with
        | true => exact Ev.step (f := fun _ => some false) (fun k => by simp [spec_haFame.j1]) (by simpa using Ev.now false)
        | false =>
          refine Ev.step (f := fun k => spec_haFame.l1 k (l.length : Int) l[i] 1 l (l.length : Int) (i : Int)) (fun k => by simp [spec_haFame.j1]) ?_
          simpa using haFame_l1 (l.length : Int) l[i] l (l.length : Int) (i : Int) hxi _ ih'
      by_cases c1 : ((l[i].length : Int)) > (l.length : Int)
      · -- a list that is too long is not rising within its bounds
        refine Ev.step (f := fun k => spec_haFame.j1 k (l.length : Int) l[i] l (l.length : Int) (i : Int) true) (fun k => ?_) ?_
        · simp only [spec_haFame.l0]
          rw [if_pos (by omega), if_pos (by omega), if_pos (by omega), rdL_at hi, if_pos c1]
        · have e : (rising l[i] && ((l[i].all fun x => decide (0 ≤ x) && decide (x ≤ (l.length : Int) - 1)) && !l[i].contains (i : Int))) = false := by
            cases hr : rising l[i] with
            | false => simp
            | true =>
              cases ha : (l[i].all fun x => decide (0 ≤ x) && decide (x ≤ (l.length : Int) - 1)) with
              | false => simp
              | true =>
                exfalso
                have hb2 : ∀ x ∈ l[i], 0 ≤ x ∧ x ≤ (l.length : Int) - 1 := by simpa using ha
                have := rising_len hr hb2 (by intro e0; rw [e0] at c1; simp at c1; omega)
                omega
          rw [e, Bool.false_and]
          simpa using hj true
      · refine Ev.step (f := fun k => (spec_l1All.f k l[i] 0 ((l.length : Int) - 1)).bind fun t => if t = true then (spec_l1Has.f k l[i] (i : Int)).bind fun t => spec_haFame.j1 k (l.length : Int) l[i] l (l.length : Int) (i : Int) t else spec_haFame.j1 k (l.length : Int) l[i] l (l.length : Int) (i : Int) true) (fun k => ?_) ?_
        · simp only [spec_haFame.l0]
          rw [if_pos (by omega), if_pos (by omega), if_pos (by omega), rdL_at hi, if_neg c1, wrap_id (x := (l.length : Int) - 1) (by omega) (by omega)]
        · refine Ev.bind (l1All_ev l[i] _ _ (by omega)) ?_
          cases ha : (l[i].all fun x => decide (0 ≤ x) && decide (x ≤ (l.length : Int) - 1)) with
          | false =>
            refine ev_if (fun h => by simp at h) (fun _ => ?_)
            simpa using hj true
          | true =>
            refine ev_if (fun _ => ?_) (fun h => absurd rfl h)
            refine Ev.bind (l1Has_ev l[i] (i : Int) (by omega)) ?_
            have := hj (l[i].contains (i : Int))
            cases hc : l[i].contains (i : Int) <;> rw [hc] at this <;> simpa using this) 0 (Nat.zero_le _)
  simpa using q

theorem fame_of {l : List (List Int)} (h : fame l = true) : 1 ≤ l.length ∧ l.length ≤ 12 ∧ ∀ a, (ha : a < l.length) → rising l[a] = true ∧ (∀ x ∈ l[a], 0 ≤ x ∧ x ≤ (l.length : Int) - 1) ∧ l[a].contains (a : Int) = false := by
  unfold fame at h
  simp only [Bool.and_eq_true, decide_eq_true_eq, List.all_eq_true, List.mem_range] at h
  obtain ⟨⟨h1, h2⟩, h3⟩ := h
  refine ⟨by omega, by omega, fun a ha => ?_⟩
  have q := h3 a ha
  rw [fameAt_eq ha] at q
  simp only [Bool.and_eq_true, List.all_eq_true, decide_eq_true_eq, Bool.not_eq_true'] at q
  exact ⟨q.1, fun x hx => q.2.1 x hx, q.2.2⟩
end Go.Proofs.Ytagdkekkbdonfaa.Plain

/- The laws' marks: written into a list and found again. No condition but a length that fits. -/
namespace Go.Proofs.Ytagdkekkbdonfaa.Plain
open Go.RowKit Go.Proofs.YtagdkekkbdonfaaW.PrintWords Go.Proofs.YtagdkekkbdonfaaW.PrintLast
set_option linter.unusedVariables false
open Q

/-- The marks of n pairs from v on. -/
def marksP (v : Int) (n : Nat) : List Pr := (List.range n).map fun i : Nat => ⟨v + 2 * (i : Int), v + 2 * (i : Int) + 1⟩
/-- The marks of n numbers from v on. -/
def marksI (v : Int) (n : Nat) : List Int := (List.range n).map fun i : Nat => v + (i : Int)
theorem marksP_length (v : Int) (n : Nat) : (marksP v n).length = n := by simp [marksP]
theorem marksI_length (v : Int) (n : Nat) : (marksI v n).length = n := by simp [marksI]
theorem marksP_get {v : Int} {n i : Nat} (h : i < (marksP v n).length) : (marksP v n)[i] = ⟨v + 2 * (i : Int), v + 2 * (i : Int) + 1⟩ := by simp [marksP]
theorem marksI_get {v : Int} {n i : Nat} (h : i < (marksI v n).length) : (marksI v n)[i] = v + (i : Int) := by simp [marksI]

theorem marksP_step (v : Int) (l : List Pr) {i : Nat} (hi : i < l.length) (x : Pr) (hx : x = ⟨v + 2 * (i : Int), v + 2 * (i : Int) + 1⟩) : (marksP v i ++ l.drop i).set i x = marksP v (i + 1) ++ l.drop (i + 1) := by
  apply List.ext_getElem
  · simp [marksP_length]; omega
  · intro j h1 h2
    rw [List.getElem_set]
    by_cases e : i = j
    · subst e
      rw [if_pos rfl, List.getElem_append_left (by rw [marksP_length]; omega), marksP_get, hx]
    · rw [if_neg e]
      by_cases c : j < i
      · rw [List.getElem_append_left (by rw [marksP_length]; omega), List.getElem_append_left (by rw [marksP_length]; omega), marksP_get, marksP_get]
      · rw [List.getElem_append_right (by rw [marksP_length]; omega), List.getElem_append_right (by rw [marksP_length]; omega), List.getElem_drop, List.getElem_drop]
        congr 1
        rw [marksP_length, marksP_length]
        omega
theorem marksI_step (v : Int) (l : List Int) {i : Nat} (hi : i < l.length) : (marksI v i ++ l.drop i).set i (v + (i : Int)) = marksI v (i + 1) ++ l.drop (i + 1) := by
  apply List.ext_getElem
  · simp [marksI_length]; omega
  · intro j h1 h2
    rw [List.getElem_set]
    by_cases e : i = j
    · subst e
      rw [if_pos rfl, List.getElem_append_left (by rw [marksI_length]; omega), marksI_get]
    · rw [if_neg e]
      by_cases c : j < i
      · rw [List.getElem_append_left (by rw [marksI_length]; omega), List.getElem_append_left (by rw [marksI_length]; omega), marksI_get, marksI_get]
      · rw [List.getElem_append_right (by rw [marksI_length]; omega), List.getElem_append_right (by rw [marksI_length]; omega), List.getElem_drop, List.getElem_drop]
        congr 1
        rw [marksI_length, marksI_length]
        omega

theorem markPairS_ev (l : List Pr) (v : Int) (h : l.length ≤ 1152921504606846976) (h0 : 0 ≤ v) (h1 : v ≤ 1000) : Ev (fun k => laws_markPairS.f k l v) (v + 2 * (l.length : Int), marksP v l.length) := by
  have q := ev_up (n := l.length) (loop := fun k i => laws_markPairS.l0 k (marksP v i ++ l.drop i) (v + 2 * (i : Int)) (i : Int)) (r := fun _ => (v + 2 * (l.length : Int), marksP v l.length))
    (by
      refine Ev.step (f := fun _ => some (v + 2 * (l.length : Int), marksP v l.length)) (fun k => ?_) (Ev.now _)
      simp only [laws_markPairS.l0]
      rw [List.drop_length, List.append_nil, if_neg (by rw [marksP_length]; omega)])
    (fun i hi ih => by
      have hlen : (marksP v i ++ l.drop i).length = l.length := by rw [List.length_append, marksP_length, List.length_drop]; omega
      have w1 : wrap64 (v + 2 * (i : Int) + 1) = v + 2 * (i : Int) + 1 := wrap_id (by omega) (by omega)
      have w2 : wrap64 (v + 2 * (i : Int) + 1 + 1) = v + 2 * ((i + 1 : Nat) : Int) := by rw [wrap_id (by omega) (by omega)]; omega
      refine Ev.step (f := fun k => laws_markPairS.l0 k (marksP v (i + 1) ++ l.drop (i + 1)) (v + 2 * ((i + 1 : Nat) : Int)) ((i + 1 : Nat) : Int)) (fun k => ?_) ih
      simp only [laws_markPairS.l0]
      rw [if_pos (by rw [hlen]; omega), if_pos (by omega), Option.bind_some, w1, w2, succ_cast hi (by omega), Int.toNat_natCast, List.set_set]
      rw [marksP_step v l hi _ (by rw [rdP_at (by rw [List.length_set, hlen]; exact hi), List.getElem_set_self])]) 0 (Nat.zero_le _)
  have e : marksP v 0 ++ l.drop 0 = l := by simp [marksP]
  rw [e] at q
  simpa [laws_markPairS.f] using q

theorem heldPairS_ev (n : Nat) (v : Int) (h : n ≤ 1152921504606846976) (h0 : 0 ≤ v) (h1 : v ≤ 1000) : Ev (fun k => laws_heldPairS.f k (marksP v n) v) (v + 2 * (n : Int)) := by
  have hl := marksP_length v n
  have q := ev_up (n := n) (loop := fun k i => laws_heldPairS.l0 k (marksP v n) (v + 2 * (i : Int)) (i : Int)) (r := fun _ => v + 2 * (n : Int))
    (Ev.step (f := fun _ => some (v + 2 * (n : Int))) (fun k => by simp only [laws_heldPairS.l0]; rw [if_neg (by rw [hl]; omega)]) (Ev.now _))
    (fun i hi ih => by
      have w1 : wrap64 (v + 2 * (i : Int) + 1) = v + 2 * (i : Int) + 1 := wrap_id (by omega) (by omega)
      have w2 : wrap64 (v + 2 * (i : Int) + 1 + 1) = v + 2 * ((i + 1 : Nat) : Int) := by rw [wrap_id (by omega) (by omega)]; omega
      refine Ev.step (f := fun k => laws_heldPairS.l0 k (marksP v n) (v + 2 * ((i + 1 : Nat) : Int)) ((i + 1 : Nat) : Int)) (fun k => ?_) ih
      simp only [laws_heldPairS.l0]
      rw [if_pos (by rw [hl]; omega), if_pos (by omega), rdP_at (by rw [hl]; exact hi), marksP_get, if_pos rfl, w1, if_pos rfl, w2, succ_cast hi (by omega)]) 0 (Nat.zero_le _)
  simpa [laws_heldPairS.f] using q

theorem markIntS_ev (l : List Int) (v : Int) (h : l.length ≤ 1152921504606846976) (h0 : 0 ≤ v) (h1 : v ≤ 1152921504606846976) : Ev (fun k => laws_markIntS.f k l v) (v + (l.length : Int), marksI v l.length) := by
  have q := ev_up (n := l.length) (loop := fun k i => laws_markIntS.l0 k (marksI v i ++ l.drop i) (v + (i : Int)) (i : Int)) (r := fun _ => (v + (l.length : Int), marksI v l.length))
    (by
      refine Ev.step (f := fun _ => some (v + (l.length : Int), marksI v l.length)) (fun k => ?_) (Ev.now _)
      simp only [laws_markIntS.l0]
      rw [List.drop_length, List.append_nil, if_neg (by rw [marksI_length]; omega)])
    (fun i hi ih => by
      have hlen : (marksI v i ++ l.drop i).length = l.length := by rw [List.length_append, marksI_length, List.length_drop]; omega
      have w1 : wrap64 (v + (i : Int) + 1) = v + ((i + 1 : Nat) : Int) := by rw [wrap_id (by omega) (by omega)]; omega
      refine Ev.step (f := fun k => laws_markIntS.l0 k (marksI v (i + 1) ++ l.drop (i + 1)) (v + ((i + 1 : Nat) : Int)) ((i + 1 : Nat) : Int)) (fun k => ?_) ih
      simp only [laws_markIntS.l0]
      rw [if_pos (by rw [hlen]; omega), if_pos (by omega), w1, succ_cast hi (by omega), Int.toNat_natCast, marksI_step v l hi]) 0 (Nat.zero_le _)
  have e : marksI v 0 ++ l.drop 0 = l := by simp [marksI]
  rw [e] at q
  simpa [laws_markIntS.f] using q

end Go.Proofs.Ytagdkekkbdonfaa.Plain

/- The laws' marks over rows of rows: written and found again. No condition but sizes that fit. -/
namespace Go.Proofs.Ytagdkekkbdonfaa.Plain
open Go.RowKit Go.Proofs.YtagdkekkbdonfaaW.PrintWords Go.Proofs.YtagdkekkbdonfaaW.PrintLast
set_option linter.unusedVariables false
open Q

def totR : List (List Int) → Nat
  | [] => 0
  | r :: l => r.length + totR l
def markRows : Int → List (List Int) → List (List Int)
  | _, [] => []
  | v, r :: l => marksI v r.length :: markRows (v + (r.length : Int)) l
theorem markIntSS_at : ∀ (l p : List (List Int)) (v : Int), 0 ≤ v → v + (totR l : Int) ≤ 1152921504606846976 → p.length + l.length ≤ 1152921504606846976 →
    Ev (fun k => laws_markIntSS.l0 k (p ++ l) v (p.length : Int)) (v + (totR l : Int), p ++ markRows v l)
  | [], p, v, h0, h1, h2 => by
    refine Ev.step (f := fun _ => some (v, p)) (fun k => ?_) (by simpa [totR, markRows] using Ev.now (v, p))
    simp only [laws_markIntSS.l0]
    rw [if_neg (by simp), List.append_nil]
  | r :: l, p, v, h0, h1, h2 => by
    simp only [totR] at h1
    simp only [List.length_cons] at h2
    have ih := markIntSS_at l (p ++ [marksI v r.length]) (v + (r.length : Int)) (by omega) (by omega) (by rw [List.length_append, List.length_singleton]; omega)
    rw [List.length_append, List.length_singleton, List.append_assoc, List.append_assoc, List.singleton_append, List.singleton_append] at ih
    refine Ev.step (f := fun k => (laws_markIntS.f k r v).bind fun t => laws_markIntSS.l0 k (p ++ t.2 :: l) t.1 ((p.length + 1 : Nat) : Int)) (fun k => ?_) ?_
    · simp only [laws_markIntSS.l0]
      rw [if_pos (by rw [List.length_append, List.length_cons]; omega), if_pos (by omega), Int.toNat_natCast, wrap_id (by omega) (by omega)]
      have e1 : (p ++ r :: l).getD p.length [] = r := by simp
      rw [e1]
      congr 1
      funext t
      rw [show ((p.length : Int) + 1) = ((p.length + 1 : Nat) : Int) by omega]
      congr 1
      simp
    · refine Ev.bind (markIntS_ev r v (by omega) h0 (by omega)) ?_
      simp only [totR, markRows]
      rw [show v + ((r.length + totR l : Nat) : Int) = v + (r.length : Int) + (totR l : Int) by omega]
      exact ih
theorem markIntSS_ev (l : List (List Int)) (h : totR l ≤ 1048576) (h2 : l.length ≤ 1048576) : Ev (fun k => laws_markIntSS.f k l 1) (1 + (totR l : Int), markRows 1 l) := by
  have := markIntSS_at l [] 1 (by omega) (by omega) (by rw [List.length_nil]; omega)
  simpa [laws_markIntSS.f] using this
end Go.Proofs.Ytagdkekkbdonfaa.Plain
/- The program's QuestionsForStar returns what the reference's returns, for all arguments. No condition. -/
namespace Go.Proofs.Ytagdkekkbdonfaa.Pure
open Go.RowKit Go.Proofs.YtagdkekkbdonfaaW.PrintWords Go.Proofs.YtagdkekkbdonfaaW.PrintLast
set_option linter.unusedVariables false
open Q Plain

/-- Was it asked whether a knows b. -/
def asked (l : List Pr) (a b : Int) : Bool := l.any fun p => decide (p.f0 = a) && decide (p.f1 = b)
/-- Does a know b. -/
def knows (l : List (List Int)) (a b : Nat) : Bool := (l.getD a []).contains (b : Int)
def put (l : List Pr) (a b : Int) : List Pr := if asked l a b = true then l else l ++ [⟨a, b⟩]
theorem put_len (l : List Pr) (a b : Int) : (put l a b).length ≤ l.length + 1 := by
  unfold put
  split <;> simp
theorem asked_iff {l : List Pr} {a b : Int} : asked l a b = true ↔ ∃ p ∈ l, p.f0 = a ∧ p.f1 = b := by
  unfold asked
  rw [List.any_eq_true]
  constructor
  · rintro ⟨p, hp, h⟩
    rw [Bool.and_eq_true, decide_eq_true_eq, decide_eq_true_eq] at h
    exact ⟨p, hp, h⟩
  · rintro ⟨p, hp, h1, h2⟩
    exact ⟨p, hp, by rw [h1, h2]; simp⟩
theorem mem_put {l : List Pr} {a b : Int} {p : Pr} (h : p ∈ put l a b) : p ∈ l ∨ (p.f0 = a ∧ p.f1 = b) := by
  unfold put at h
  split at h
  · exact .inl h
  · rcases List.mem_append.1 h with h | h
    · exact .inl h
    · right
      rw [List.mem_singleton] at h
      subst h
      exact ⟨rfl, rfl⟩

theorem asked_cons (p : Pr) (t : List Pr) (a b : Int) : asked (p :: t) a b = ((decide (p.f0 = a) && decide (p.f1 = b)) || asked t a b) := rfl
theorem haAsked_ev (l : List Pr) (a b : Int) (h : l.length ≤ 9223372036854775807) : Ev (fun k => spec_haAsked.f k l a b) (asked l a b) := by
  unfold spec_haAsked.f
  have q := ev_up (n := l.length) (loop := fun k i => spec_haAsked.l0 k a b l (l.length : Int) (i : Int)) (r := fun i => asked (l.drop i) a b)
    (Ev.step (f := fun _ => some false) (fun k => by simp only [spec_haAsked.l0]; rw [if_neg (by omega)]) (by rw [List.drop_length]; exact Ev.now _))
    (fun i hi ih => by
      have e : rd_T71 l (i : Int) = l[i] := by simp [rd_T71, hi]
      rw [List.drop_eq_getElem_cons hi]
      by_cases c1 : l[i].f0 = a
      · by_cases c2 : l[i].f1 = b
        · refine Ev.step (f := fun _ => some true) (fun k => ?_) (by rw [asked_cons, decide_eq_true c1, decide_eq_true c2]; exact Ev.now _)
          simp only [spec_haAsked.l0]
          rw [if_pos (by omega), if_pos (by omega), if_pos (by omega), e, if_pos c1, if_pos c2]
        · refine Ev.step (f := fun k => spec_haAsked.l0 k a b l (l.length : Int) ((i + 1 : Nat) : Int)) (fun k => ?_) (by rw [asked_cons, decide_eq_false c2, Bool.and_false, Bool.false_or]; exact ih)
          simp only [spec_haAsked.l0]
          rw [if_pos (by omega), if_pos (by omega), if_pos (by omega), e, if_pos c1, if_neg c2, succ_cast hi h]
      · refine Ev.step (f := fun k => spec_haAsked.l0 k a b l (l.length : Int) ((i + 1 : Nat) : Int)) (fun k => ?_) (by rw [asked_cons, decide_eq_false c1, Bool.false_and, Bool.false_or]; exact ih)
        simp only [spec_haAsked.l0]
        rw [if_pos (by omega), if_pos (by omega), if_pos (by omega), e, if_neg c1, succ_cast hi h]) 0 (Nat.zero_le _)
  simpa using q
theorem contains_pair_ev (l : List Pr) (a b : Int) (h : l.length ≤ 9223372036854775807) : Ev (fun k => impl_Pair_51.f k l a b) (asked l a b) := by
  unfold impl_Pair_51.f
  have q := ev_up (n := l.length) (loop := fun k i => (impl_Pair_72.l0 k l (l.length : Int) (i : Int) a b).bind fun t => some (decide (t ≥ 0))) (r := fun i => asked (l.drop i) a b)
    (Ev.step (f := fun _ => some false) (fun k => by simp only [impl_Pair_72.l0]; rw [if_neg (by omega)]; rfl) (by rw [List.drop_length]; exact Ev.now _))
    (fun i hi ih => by
      have e : rd_T71 l (i : Int) = l[i] := by simp [rd_T71, hi]
      rw [List.drop_eq_getElem_cons hi]
      by_cases c : l[i].f0 = a ∧ l[i].f1 = b
      · refine Ev.step (f := fun _ => some true) (fun k => ?_) (by rw [asked_cons, decide_eq_true c.1, decide_eq_true c.2]; exact Ev.now _)
        simp only [impl_Pair_72.l0]
        rw [if_pos (by omega), if_pos (by omega), if_pos (by omega), e, if_pos (by rw [c.1, c.2]; simp), Option.bind_some, decide_eq_true (by omega)]
      · refine Ev.step (f := fun k => (impl_Pair_72.l0 k l (l.length : Int) ((i + 1 : Nat) : Int) a b).bind fun t => some (decide (t ≥ 0))) (fun k => ?_) (by
          rw [asked_cons, show (decide (l[i].f0 = a) && decide (l[i].f1 = b)) = false by
              rw [Bool.and_eq_false_iff, decide_eq_false_iff_not, decide_eq_false_iff_not]
              by_cases c1 : l[i].f0 = a
              · exact .inr (fun c2 => c ⟨c1, c2⟩)
              · exact .inl c1, Bool.false_or]
          exact ih)
        simp only [impl_Pair_72.l0]
        rw [if_pos (by omega), if_pos (by omega), if_pos (by omega), e, if_neg (by
          intro z
          rw [Bool.and_eq_true, beq_iff_eq, beq_iff_eq] at z
          exact c ⟨z.1.symm, z.2.symm⟩), succ_cast hi h]) 0 (Nat.zero_le _)
  unfold impl_Pair_72.f
  simpa using q
theorem ask_ev {l : List (List Int)} (out : List Pr) {a : Nat} (b : Nat) (ho : out.length ≤ 1000) (ha : a < l.length) (hl : l.length ≤ 12) (hx : ∀ x ∈ l, x.length ≤ 1048576) : Ev (fun k => impl_QuestionsForStar_1.f k out l (a : Int) (b : Int)) (put out a b, knows l a b) := by
  unfold impl_QuestionsForStar_1.f
  refine Ev.bind (contains_pair_ev out a b (by omega)) ?_
  have tail : ∀ o, Ev (fun k => impl_QuestionsForStar_1.tail k o l (a : Int) (b : Int)) (o, knows l a b) := by
    intro o
    unfold impl_QuestionsForStar_1.tail
    refine ev_if (fun _ => ?_) (fun c => absurd (by omega) c)
    refine ev_if (fun _ => ?_) (fun c => absurd (by omega) c)
    have e : impl_QuestionsForStar.row l (a : Int) = l.getD a [] := by simp [impl_QuestionsForStar.row]
    rw [e]
    unfold knows
    refine Ev.bind (contains_ev _ _ ?_) (Ev.now _)
    have : l.getD a [] = l[a] := by simp [List.getD, ha]
    rw [this]
    have := hx l[a] (List.getElem_mem ha)
    omega
  unfold put
  refine ev_if (fun c => ?_) (fun c => ?_)
  · rw [if_pos c]; exact tail out
  · rw [if_neg c]
    refine ev_if (fun _ => tail _) (fun z => absurd (by omega) z)

/-- The first pass: who is left, and what was asked. -/
def ph1 (K : Nat → Nat → Bool) : List Nat → List Pr → Nat → List Pr × Nat
  | [], out, c => (out, c)
  | b :: l, out, c => ph1 K l (put out c b) (if K c b = true then b else c)
/-- The second pass. -/
def ph2 (K : Nat → Nat → Bool) (c : Nat) : List Nat → List Pr → List Pr
  | [], out => out
  | x :: l, out => if x = c then ph2 K c l out else if K c x = true then put out c x else if K x c = true then ph2 K c l (put (put out c x) x c) else put (put out c x) x c
theorem ph2_len (K : Nat → Nat → Bool) (c : Nat) : ∀ (l : List Nat) (out : List Pr), (ph2 K c l out).length ≤ out.length + 2 * l.length
  | [], out => by simp [ph2]
  | x :: l, out => by
    have h1 := put_len out c x
    have h2 := put_len (put out c x) x c
    have h3 := ph2_len K c l out
    have h4 := ph2_len K c l (put (put out c x) x c)
    rw [List.length_cons]
    unfold ph2
    split
    · omega
    · split
      · omega
      · split <;> omega
theorem drop_range {n i : Nat} (h : i < n) : (List.range n).drop i = i :: (List.range n).drop (i + 1) := by
  rw [List.drop_eq_getElem_cons (by simpa using h), List.getElem_range]
theorem drop_range_end (n : Nat) : (List.range n).drop n = [] := List.drop_of_length_le (by simp)

theorem impl_l1 {l : List (List Int)} (hl : l.length ≤ 12) (hx : ∀ x ∈ l, x.length ≤ 1048576) {c : Nat} (hc : c < l.length) : ∀ d x, l.length - x = d → x ≤ l.length → ∀ out : List Pr, out.length ≤ 12 + 2 * x → Ev (fun k => impl_QuestionsForStar.l1 k l out (c : Int) (x : Int)) (ph2 (knows l) c ((List.range l.length).drop x) out) := by
  intro d
  induction d with
  | zero =>
    intro x hd hxl out ho
    obtain rfl : x = l.length := by omega
    rw [drop_range_end]
    exact Ev.step (f := fun _ => some out) (fun k => by simp only [impl_QuestionsForStar.l1]; rw [if_neg (by omega)]) (Ev.now _)
  | succ d ih =>
    intro x hd hxl out ho
    have hx' : x < l.length := by omega
    rw [drop_range hx']
    unfold ph2
    by_cases e : x = c
    · rw [if_pos e]
      refine Ev.step (f := fun k => impl_QuestionsForStar.l1 k l out (c : Int) ((x + 1 : Nat) : Int)) (fun k => by simp only [impl_QuestionsForStar.l1]; rw [if_pos (by omega), if_pos (by omega), succ_cast hx' (by omega)]) ?_
      exact ih (x + 1) (by omega) (by omega) out (by omega)
    · rw [if_neg e]
      refine Ev.step (f := fun k => (impl_QuestionsForStar_1.f k out l (c : Int) (x : Int)).bind fun q => if q.2 = true then some q.1 else ((impl_QuestionsForStar_1.f k q.1 l (x : Int) (c : Int)).bind fun r => if r.2 = true then impl_QuestionsForStar.l1 k l r.1 (c : Int) (wrap64 ((x : Int) + 1)) else some r.1)) (fun k => by simp only [impl_QuestionsForStar.l1]; rw [if_pos (by omega), if_neg (by omega)]) ?_
      have h1 := put_len out c x
      have h2 := put_len (put out c x) x c
      refine Ev.bind (ask_ev out x (by omega) hc hl hx) ?_
      refine ev_if (fun q => ?_) (fun q => ?_)
      · rw [if_pos q]; exact Ev.now _
      · rw [if_neg q]
        refine Ev.bind (ask_ev (put out c x) c (by omega) hx' hl hx) ?_
        refine ev_if (fun r => ?_) (fun r => ?_)
        · rw [if_pos r, succ_cast hx' (by omega)]
          exact ih (x + 1) (by omega) (by omega) _ (by show (put (put out c x) x c).length ≤ _; omega)
        · rw [if_neg r]; exact Ev.now _
theorem impl_l0 {l : List (List Int)} (hl : l.length ≤ 12) (hx : ∀ x ∈ l, x.length ≤ 1048576) : ∀ d b, l.length - b = d → b ≤ l.length → ∀ (out : List Pr) (c : Nat), c < l.length → out.length ≤ b → Ev (fun k => impl_QuestionsForStar.l0 k l out (c : Int) (b : Int)) (ph2 (knows l) (ph1 (knows l) ((List.range l.length).drop b) out c).2 (List.range l.length) (ph1 (knows l) ((List.range l.length).drop b) out c).1) := by
  intro d
  induction d with
  | zero =>
    intro b hd hb out c hc ho
    obtain rfl : b = l.length := by omega
    rw [drop_range_end]
    have := impl_l1 hl hx hc l.length 0 (by omega) (by omega) out (by omega)
    rw [List.drop_zero] at this
    exact Ev.step (f := fun k => impl_QuestionsForStar.l1 k l out (c : Int) ((0 : Nat) : Int)) (fun k => by simp only [impl_QuestionsForStar.l0]; rw [if_neg (by omega)]; rfl) this
  | succ d ih =>
    intro b hd hb out c hc ho
    have hb' : b < l.length := by omega
    rw [drop_range hb']
    unfold ph1
    have h1 := put_len out c b
    refine Ev.step (f := fun k => (impl_QuestionsForStar_1.f k out l (c : Int) (b : Int)).bind fun q => if q.2 = true then impl_QuestionsForStar.l0 k l q.1 (b : Int) ((b + 1 : Nat) : Int) else impl_QuestionsForStar.l0 k l q.1 (c : Int) ((b + 1 : Nat) : Int)) (fun k => by simp only [impl_QuestionsForStar.l0]; rw [if_pos (by omega), succ_cast hb' (by omega)]) ?_
    refine Ev.bind (ask_ev out b (by omega) hc hl hx) ?_
    refine ev_if (fun q => ?_) (fun q => ?_)
    · rw [if_pos q]; exact ih (b + 1) (by omega) (by omega) _ b hb' (by show (put out c b).length ≤ _; omega)
    · rw [if_neg q]; exact ih (b + 1) (by omega) (by omega) _ c hc (by show (put out c b).length ≤ _; omega)

/-- What was asked of the one who is left was denied; what was asked about it was confirmed. -/
def Inv (K : Nat → Nat → Bool) (c : Nat) (out : List Pr) : Prop := (∀ y : Nat, asked out c y = true → K c y = false) ∧ (∀ y : Nat, asked out y c = true → K y c = true)
theorem has_ev {l : List (List Int)} {a : Nat} (b : Nat) (ha : a < l.length) (hx : ∀ x ∈ l, x.length ≤ 1048576) : Ev (fun k => spec_l1Has.f k (rd_L1 l (a : Int)) (b : Int)) (knows l a b) := by
  rw [rdL_at ha]
  unfold knows
  rw [show l.getD a [] = l[a] by simp [List.getD, ha]]
  exact l1Has_ev _ _ (by have := hx l[a] (List.getElem_mem ha); omega)
theorem inv_put1 {K : Nat → Nat → Bool} {c x : Nat} {out : List Pr} (h : Inv K c out) (hne : x ≠ c) (hk : K c x = false) : Inv K c (put out c x) := by
  refine ⟨fun y hy => ?_, fun y hy => ?_⟩
  · obtain ⟨p, hp, h0, h1⟩ := asked_iff.1 hy
    rcases mem_put hp with hp | ⟨h2, h3⟩
    · exact h.1 y (asked_iff.2 ⟨p, hp, h0, h1⟩)
    · obtain rfl : y = x := by omega
      exact hk
  · obtain ⟨p, hp, h0, h1⟩ := asked_iff.1 hy
    rcases mem_put hp with hp | ⟨h2, h3⟩
    · exact h.2 y (asked_iff.2 ⟨p, hp, h0, h1⟩)
    · omega
theorem inv_put2 {K : Nat → Nat → Bool} {c x : Nat} {out : List Pr} (h : Inv K c out) (hne : x ≠ c) (hk : K x c = true) : Inv K c (put out x c) := by
  refine ⟨fun y hy => ?_, fun y hy => ?_⟩
  · obtain ⟨p, hp, h0, h1⟩ := asked_iff.1 hy
    rcases mem_put hp with hp | ⟨h2, h3⟩
    · exact h.1 y (asked_iff.2 ⟨p, hp, h0, h1⟩)
    · omega
  · obtain ⟨p, hp, h0, h1⟩ := asked_iff.1 hy
    rcases mem_put hp with hp | ⟨h2, h3⟩
    · exact h.2 y (asked_iff.2 ⟨p, hp, h0, h1⟩)
    · obtain rfl : y = x := by omega
      exact hk

theorem spec_l1 {l : List (List Int)} (hl : l.length ≤ 12) (hx : ∀ x ∈ l, x.length ≤ 1048576) {c : Nat} (hc : c < l.length) : ∀ d x, l.length - x = d → x ≤ l.length → ∀ out : List Pr, out.length ≤ 12 + 2 * x → Inv (knows l) c out → Ev (fun k => spec_QuestionsForStar.l1 k l out (c : Int) (l.length : Int) (x : Int)) (ph2 (knows l) c ((List.range l.length).drop x) out, true) := by
  intro d
  induction d with
  | zero =>
    intro x hd hxl out ho _
    obtain rfl : x = l.length := by omega
    rw [drop_range_end]
    exact Ev.step (f := fun _ => some (out, true)) (fun k => by simp only [spec_QuestionsForStar.l1]; rw [if_neg (by omega)]) (Ev.now _)
  | succ d ih =>
    intro x hd hxl out ho hI
    have hx' : x < l.length := by omega
    rw [drop_range hx']
    unfold ph2
    by_cases e : x = c
    · rw [if_pos e]
      refine Ev.step (f := fun k => spec_QuestionsForStar.l1 k l out (c : Int) (l.length : Int) ((x + 1 : Nat) : Int)) (fun k => by simp only [spec_QuestionsForStar.l1]; rw [if_pos (by omega), if_pos (by omega), succ_cast hx' (by omega)]) ?_
      exact ih (x + 1) (by omega) (by omega) out (by omega) hI
    · rw [if_neg e]
      -- the second question of the round
      have j2 : ∀ o : List Pr, o.length ≤ 12 + 2 * x + 1 → Inv (knows l) c o → Ev (fun k => spec_QuestionsForStar.j2 k l o (c : Int) (x : Int) (l.length : Int) (x : Int)) (if knows l x c = true then ph2 (knows l) c ((List.range l.length).drop (x + 1)) (put o x c) else put o x c, true) := by
        intro o ho2 hI2
        have h1 := put_len o x c
        refine Ev.step (f := fun k => (spec_haAsked.f k o (x : Int) (c : Int)).bind fun t126 => (if t126 = true then (spec_QuestionsForStar.l1 k l o (c : Int) (l.length : Int) ((x + 1 : Nat) : Int)) else ((spec_l1Has.f k (rd_L1 l (x : Int)) (c : Int)).bind fun t131 => (if t131 = true then (spec_QuestionsForStar.l1 k l (o ++ [⟨(x : Int), (c : Int)⟩]) (c : Int) (l.length : Int) ((x + 1 : Nat) : Int)) else (some (o ++ [⟨(x : Int), (c : Int)⟩], true)))))) (fun k => ?_) ?_
        · simp only [spec_QuestionsForStar.j2]
          congr 1
          funext t
          by_cases ht : t = true
          · rw [if_pos ht, if_pos ht, succ_cast hx' (by omega)]
          · rw [if_neg ht, if_neg ht, if_pos (by omega), Option.bind_some, if_pos (by omega), if_pos (by omega), succ_cast hx' (by omega)]
        · refine Ev.bind (haAsked_ev o _ _ (by omega)) ?_
          refine ev_if (fun a => ?_) (fun a => ?_)
          · rw [if_pos (hI2.2 x a), show put o x c = o from if_pos a]
            exact ih (x + 1) (by omega) (by omega) o (by omega) hI2
          · have hp : put o x c = o ++ [⟨(x : Int), (c : Int)⟩] := if_neg a
            refine Ev.bind (has_ev c hx' hx) ?_
            refine ev_if (fun b => ?_) (fun b => ?_)
            · rw [if_pos b, ← hp]
              exact ih (x + 1) (by omega) (by omega) _ (by omega) (inv_put2 hI2 e b)
            · rw [if_neg b, ← hp]; exact Ev.now _
      have h1 := put_len out c x
      refine Ev.step (f := fun k => (spec_haAsked.f k out (c : Int) (x : Int)).bind fun t120 => (if t120 = true then (spec_QuestionsForStar.j2 k l out (c : Int) (x : Int) (l.length : Int) (x : Int)) else ((spec_l1Has.f k (rd_L1 l (c : Int)) (x : Int)).bind fun t125 => (if t125 = true then (some (out ++ [⟨(c : Int), (x : Int)⟩], true)) else (spec_QuestionsForStar.j2 k l (out ++ [⟨(c : Int), (x : Int)⟩]) (c : Int) (x : Int) (l.length : Int) (x : Int)))))) (fun k => ?_) ?_
      · simp only [spec_QuestionsForStar.l1]
        rw [if_pos (by omega), if_neg (by omega)]
        congr 1
        funext t
        by_cases ht : t = true
        · rw [if_pos ht, if_pos ht]
        · rw [if_neg ht, if_neg ht, if_pos (by omega), Option.bind_some, if_pos (by omega), if_pos (by omega)]
      · refine Ev.bind (haAsked_ev out _ _ (by omega)) ?_
        refine ev_if (fun a => ?_) (fun a => ?_)
        · rw [if_neg (by rw [hI.1 x a]; simp), show put out c x = out from if_pos a]
          have := j2 out (by omega) hI
          by_cases b : knows l x c = true
          · rw [if_pos b] at this ⊢; exact this
          · rw [if_neg b] at this ⊢; exact this
        · have hp : put out c x = out ++ [⟨(c : Int), (x : Int)⟩] := if_neg a
          refine Ev.bind (has_ev x hc hx) ?_
          refine ev_if (fun b => ?_) (fun b => ?_)
          · rw [if_pos b, ← hp]; exact Ev.now _
          · rw [if_neg b, ← hp]
            have := j2 (put out c x) (by omega) (inv_put1 hI e (by simpa using b))
            by_cases b2 : knows l x c = true
            · rw [if_pos b2] at this ⊢; exact this
            · rw [if_neg b2] at this ⊢; exact this
theorem spec_l0 {l : List (List Int)} (hl : l.length ≤ 12) (hx : ∀ x ∈ l, x.length ≤ 1048576) : ∀ d b, l.length - b = d → b ≤ l.length → ∀ (out : List Pr) (c : Nat), c < b → c < l.length → out.length ≤ b → (∀ p ∈ out, p.f0 < (b : Int) ∧ p.f1 < (b : Int)) → Inv (knows l) c out → Ev (fun k => spec_QuestionsForStar.l0 k l out (c : Int) (b : Int)) (ph2 (knows l) (ph1 (knows l) ((List.range l.length).drop b) out c).2 (List.range l.length) (ph1 (knows l) ((List.range l.length).drop b) out c).1, true) := by
  intro d
  induction d with
  | zero =>
    intro b hd hb out c hcb hc ho _ hI
    obtain rfl : b = l.length := by omega
    rw [drop_range_end]
    have := spec_l1 hl hx hc l.length 0 (by omega) (by omega) out (by omega) hI
    rw [List.drop_zero] at this
    exact Ev.step (f := fun k => spec_QuestionsForStar.l1 k l out (c : Int) (l.length : Int) ((0 : Nat) : Int)) (fun k => by simp only [spec_QuestionsForStar.l0]; rw [if_neg (by omega)]; rfl) this
  | succ d ih =>
    intro b hd hb out c hcb hc ho hlt hI
    have hb' : b < l.length := by omega
    rw [drop_range hb']
    unfold ph1
    have h1 := put_len out c b
    have hna : ¬ asked out c b = true := fun a => by
      obtain ⟨p, hp, _, h3⟩ := asked_iff.1 a
      have := (hlt p hp).2
      omega
    have hp : put out c b = out ++ [⟨(c : Int), (b : Int)⟩] := if_neg hna
    have hlt2 : ∀ p ∈ put out c b, p.f0 < ((b + 1 : Nat) : Int) ∧ p.f1 < ((b + 1 : Nat) : Int) := fun p hp2 => by
      rcases mem_put hp2 with h | ⟨h2, h3⟩
      · have := hlt p h; omega
      · omega
    refine Ev.step (f := fun k => (spec_l1Has.f k (rd_L1 l (c : Int)) (b : Int)).bind fun t119 => (if t119 = true then (spec_QuestionsForStar.l0 k l (out ++ [⟨(c : Int), (b : Int)⟩]) (b : Int) ((b + 1 : Nat) : Int)) else (spec_QuestionsForStar.l0 k l (out ++ [⟨(c : Int), (b : Int)⟩]) (c : Int) ((b + 1 : Nat) : Int)))) (fun k => by simp only [spec_QuestionsForStar.l0]; rw [if_pos (by omega), if_pos (by omega), Option.bind_some, if_pos (by omega), if_pos (by omega), succ_cast hb' (by omega)]) ?_
    refine Ev.bind (has_ev b hc hx) ?_
    rw [← hp]
    refine ev_if (fun q => ?_) (fun q => ?_)
    · rw [if_pos q]
      refine ih (b + 1) (by omega) (by omega) _ b (by omega) hb' (by omega) hlt2 ⟨fun y hy => ?_, fun y hy => ?_⟩
      · obtain ⟨p, hp2, h2, h3⟩ := asked_iff.1 hy
        rcases mem_put hp2 with h | ⟨h4, h5⟩
        · have := (hlt p h).1; omega
        · omega
      · obtain ⟨p, hp2, h2, h3⟩ := asked_iff.1 hy
        rcases mem_put hp2 with h | ⟨h4, h5⟩
        · have := (hlt p h).2; omega
        · obtain rfl : y = c := by omega
          exact q
    · rw [if_neg q]
      exact ih (b + 1) (by omega) (by omega) _ c (by omega) hc (by omega) hlt2 (inv_put1 hI (by omega) (by simpa using q))

/-- What both sides tell. -/
def tell (l : List (List Int)) : List Pr × Bool := if fame l = true then (ph2 (knows l) (ph1 (knows l) ((List.range l.length).drop 1) [] 0).2 (List.range l.length) (ph1 (knows l) ((List.range l.length).drop 1) [] 0).1, true) else ([], false)
theorem ph1_len (K : Nat → Nat → Bool) : ∀ (l : List Nat) (out : List Pr) (c : Nat), (ph1 K l out c).1.length ≤ out.length + l.length
  | [], out, c => by simp [ph1]
  | b :: l, out, c => by
    have h1 := put_len out c b
    have h2 := ph1_len K l (put out c b) (if K c b = true then b else c)
    unfold ph1
    rw [List.length_cons]
    omega
theorem tell_len (l : List (List Int)) : (tell l).1.length ≤ 36 := by
  unfold tell
  by_cases c : fame l = true
  · rw [if_pos c]
    obtain ⟨_, h, _⟩ := fame_of c
    have h1 := ph1_len (knows l) ((List.range l.length).drop 1) [] 0
    have h2 := ph2_len (knows l) (ph1 (knows l) ((List.range l.length).drop 1) [] 0).2 (List.range l.length) (ph1 (knows l) ((List.range l.length).drop 1) [] 0).1
    simp only [List.length_drop, List.length_range, List.length_nil] at h1 h2
    show (ph2 _ _ _ _).length ≤ 36
    omega
  · rw [if_neg c]; simp
theorem impl_ev (l : List (List Int)) (h : l.length ≤ 1048576) (hx : ∀ x ∈ l, x.length ≤ 1048576) : Ev (fun k => impl_QuestionsForStar.f k l) (tell l) := by
  unfold impl_QuestionsForStar.f tell
  refine Ev.bind (isFame_ev l h hx) ?_
  refine ev_if (fun c => ?_) (fun c => by rw [if_neg c]; exact Ev.now _)
  rw [if_pos c]
  obtain ⟨h1, h12, _⟩ := fame_of c
  exact Ev.bind (impl_l0 h12 hx (l.length - 1) 1 rfl h1 [] 0 (by omega) (by simp)) (Ev.now _)
theorem spec_ev (l : List (List Int)) (h : l.length ≤ 1048576) (hx : ∀ x ∈ l, x.length ≤ 1048576) : Ev (fun k => spec_QuestionsForStar.f k l) (tell l) := by
  unfold spec_QuestionsForStar.f tell
  refine Ev.bind (haFame_ev l h hx) ?_
  refine ev_if (fun c => ?_) (fun c => by rw [if_neg c]; exact Ev.now _)
  rw [if_pos c]
  obtain ⟨h1, h12, _⟩ := fame_of c
  exact spec_l0 h12 hx (l.length - 1) 1 rfl h1 [] 0 (by omega) (by omega) (by simp) (by simp) ⟨fun y hy => by simp [asked] at hy, fun y hy => by simp [asked] at hy⟩

theorem szR_tot : ∀ (l : List (List Int)) (left : Int), 0 ≤ szR l left → (totR l : Int) ≤ left := by
  intro l
  induction l with
  | nil => intro left h; simpa [szR, totR] using h
  | cons x l ih =>
    intro left h
    unfold szR at h
    simp only [totR]
    split at h
    · omega
    · have := ih _ h; omega

theorem FnExactQuestionsForStar : laws_FnExactQuestionsForStar.Pure := by
  intro l hl hx
  refine Ev.rounds (g := fun k => laws_FnExactQuestionsForStar.f k l) ?_
  unfold laws_FnExactQuestionsForStar.f
  refine Ev.bind (szIntSS_ev l 1048576 (by omega) (by omega) hl (fun x h => (hx x h).1)) ?_
  refine ev_if (fun _ => Ev.now _) (fun b => ?_)
  have hs : l.length ≤ 1048576 := by
    by_cases h : (1048576 : Int) < (l.length : Int)
    · rw [if_pos h] at b; omega
    · omega
  rw [if_neg (by omega)] at b
  have hr : ∀ x ∈ l, x.length ≤ 1048576 := fun x h => by
    have := szR_len l (1048576 - l.length) (by omega) (by omega) x h
    omega
  have ht : totR l ≤ 1048576 := by
    have := szR_tot l (1048576 - l.length) (by omega)
    omega
  have hTl := toIntSS_ev l (by omega) (fun x h => by have := hr x h; omega)
  have hS := spec_ev l hs hr
  have hI := impl_ev l hs hr
  have hp := tell_len l
  generalize tell l = z at hS hI hp
  obtain ⟨ps, ok1⟩ := z
  replace hp : ps.length ≤ 36 := hp
  have hM := markIntSS_ev l (by omega) (by omega)
  have hE := eqPairS_ev ps (by omega)
  have hMp := markPairS_ev ps 1 (by omega) (by omega) (by omega)
  have hHp := heldPairS_ev ps.length 1 (by omega) (by omega) (by omega)
  refine Ev.bind hTl ?_
  refine Ev.bind hS ?_
  refine Ev.bind hTl ?_
  refine Ev.bind hI ?_
  refine Ev.bind hE ?_
  refine ev_if (fun _ => ?_) (fun h => absurd rfl h)
  show Ev (fun k => laws_FnExactQuestionsForStar.j0 k l ps ok1 l ps ok1 (ok1 != ok1)) true
  rw [show (ok1 != ok1) = false by simp]
  refine Ev.step (f := fun k => (laws_toIntSS.f k l).bind fun t189 => ((laws_eqIntSS.f k l t189).bind fun t192 => (if t192 = true then ((laws_markIntSS.f k l 1).bind fun bt193 => (if bt193.1 < 0 then (laws_FnExactQuestionsForStar.j1 k l ps ok1 ps true) else ((laws_eqPairS.f k ps ps).bind fun t194 => (if t194 = true then (laws_FnExactQuestionsForStar.j1 k l ps ok1 ps (ok1 != ok1)) else (laws_FnExactQuestionsForStar.j1 k l ps ok1 ps true))))) else (some false)))) (fun k => by simp only [laws_FnExactQuestionsForStar.j0]; rfl) ?_
  refine Ev.bind hTl ?_
  refine Ev.bind (eqIntSS_ev l (by omega) (fun x h => by have := hr x h; omega)) ?_
  refine ev_if (fun _ => ?_) (fun h => absurd rfl h)
  refine Ev.bind hM ?_
  refine ev_if (fun (q : (1 + (totR l : Int)) < 0) => by omega) (fun _ => ?_)
  refine Ev.bind hE ?_
  refine ev_if (fun _ => ?_) (fun h => absurd rfl h)
  show Ev (fun k => laws_FnExactQuestionsForStar.j1 k l ps ok1 ps (ok1 != ok1)) true
  rw [show (ok1 != ok1) = false by simp]
  refine Ev.step (f := fun k => (laws_markPairS.f k ps 1).bind fun bt195 => ((laws_heldPairS.f k bt195.2 1).bind fun t197 => (if t197 < 0 then (some false) else (if t197 = bt195.1 then ((laws_toIntSS.f k l).bind fun t198 => ((impl_QuestionsForStar.f k t198).bind fun bt201 => ((laws_eqPairS.f k bt201.1 ps).bind fun t205 => (if t205 = true then (laws_FnExactQuestionsForStar.j2 k bt195.2 bt195.1 (bt201.2 != ok1)) else (laws_FnExactQuestionsForStar.j2 k bt195.2 bt195.1 true))))) else (some false))))) (fun k => by simp only [laws_FnExactQuestionsForStar.j1]; rfl) ?_
  refine Ev.bind hMp ?_
  refine Ev.bind hHp ?_
  refine ev_if (fun (q : (1 + 2 * (ps.length : Int)) < 0) => by omega) (fun _ => ?_)
  refine ev_if (fun _ => ?_) (fun h => absurd rfl h)
  refine Ev.bind hTl ?_
  refine Ev.bind hI ?_
  refine Ev.bind hE ?_
  refine ev_if (fun _ => ?_) (fun h => absurd rfl h)
  show Ev (fun k => laws_FnExactQuestionsForStar.j2 k (marksP 1 ps.length) (1 + 2 * (ps.length : Int)) (ok1 != ok1)) true
  rw [show (ok1 != ok1) = false by simp]
  refine Ev.step (f := fun k => (laws_heldPairS.f k (marksP 1 ps.length) 1).bind fun t206 => (if t206 < 0 then (some false) else (if t206 = (1 + 2 * (ps.length : Int)) then (some true) else (some false)))) (fun k => by simp only [laws_FnExactQuestionsForStar.j2]; rfl) ?_
  refine Ev.bind hHp ?_
  refine ev_if (fun (q : (1 + 2 * (ps.length : Int)) < 0) => by omega) (fun _ => ?_)
  refine ev_if (fun _ => ?_) (fun h => absurd rfl h)
  exact Ev.now _
end Go.Proofs.Ytagdkekkbdonfaa.Pure
