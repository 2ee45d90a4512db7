/- Fame: both sides' tests. No condition but lengths that fit. -/
import Derived.Test.YtlacnnnmeolomaaQ0
import Derived.Test.YtlacnnnmeolomaaQ20
import Derived.Test.YtlacnnnmeolomaaQ21
import Derived.Test.YtlacnnnmeolomaaQ22
import Derived.Test.YtlacnnnmeolomaaQ26
import Derived.Test.YtlacnnnmeolomaaQ27
import Derived.Test.YtlacnnnmeolomaaQ29
import Derived.Test.YtlacnnnmeolomaaQ30
import Derived.Test.YtlacnnnmeolomaaBase
import Derived.Test.YtlacnnnmeolomaaInts
import Derived.Test.YtlacnnnmeolomaaHas
import Derived.Test.YtlacnnnmeolomaaIdx
import Derived.Test.YtlacnnnmeolomaaRise
import Derived.Test.YtlacnnnmeolomaaIntSS
namespace Go.Proofs.Ytlacnnnmeolomaa.Plain
open Go.RowKit Go.Proofs.YtlacnnnmeolomaaW.PrintWords Go.Proofs.YtlacnnnmeolomaaW.PrintLast
set_option linter.unusedVariables false
open Q

/-- A person's list is right. -/
def fameAt (n : Nat) (l : List (List Int)) (a : Nat) : Bool := rising (l.getD a []) && (((l.getD a []).all fun x => decide (0 ≤ x) && decide (x ≤ (n : Int) - 1)) && !(l.getD a []).contains (a : Int))
def fame (l : List (List Int)) : Bool := (decide ((1 : Int) ≤ (l.length : Int)) && decide ((l.length : Int) ≤ 12)) && (List.range l.length).all (fameAt l.length l)

theorem getD_at {α : Type} {l : List α} {i : Nat} (z : α) (h : i < l.length) : l.getD i z = l[i] := by simp [List.getD, h]

theorem fameAt_eq {n : Nat} {l : List (List Int)} {a : Nat} (h : a < l.length) : fameAt n l a = (rising l[a] && ((l[a].all fun x => decide (0 ≤ x) && decide (x ≤ (n : Int) - 1)) && !l[a].contains (a : Int))) := by
  unfold fameAt; rw [getD_at _ h]

theorem isFame_ev (l : List (List Int)) (h : l.length ≤ 1048576) (hx : ∀ x ∈ l, x.length ≤ 1048576) : Ev (fun k => impl_IsFame.f k l) (fame l) := by
  have q := ev_up (n := l.length) (loop := fun k i => impl_IsFame.l0 k l l (l.length : Int) (i : Int)) (r := fun i => (decide ((1 : Int) ≤ (l.length : Int)) && decide ((l.length : Int) ≤ 12)) && ((List.range l.length).drop i).all (fameAt l.length l))
    (Ev.step (f := fun _ => some (decide ((1 : Int) ≤ (l.length : Int)) && decide ((l.length : Int) ≤ 12))) (fun k => by
      simp only [impl_IsFame.l0]
      rw [if_neg (by omega), within_eq]; rfl) (by rw [all_end _ (Nat.le_refl _), Bool.and_true]; exact Ev.now _))
    (fun i hi ih => by
      have hxi := hx _ (List.getElem_mem hi)
      rw [all_step _ hi, fameAt_eq hi]
      refine Ev.step (f := fun k => (impl_isRising.f k l[i]).bind fun t => if t = true then (impl_areWithin.f l[i] 0 ((l.length : Int) - 1)).bind fun t => if t = true then (slices_Contains_int_int.f k l[i] (i : Int)).bind fun t => if t = true then some false else impl_IsFame.l0 k l l (l.length : Int) ((i + 1 : Nat) : Int) else some false else some false) (fun k => ?_) ?_
      · simp only [impl_IsFame.l0]
        rw [if_pos (by omega), if_pos (by omega), if_pos (by omega), rdL_at hi, succ_cast hi (by omega), wrap_id (x := (l.length : Int) - 1) (by omega) (by omega)]
      · refine Ev.bind (isRising_ev l[i] (by omega)) ?_
        cases hr : rising l[i] with
        | false => exact ev_some (fun _ => by simp)
        | true =>
          refine ev_if (fun _ => ?_) (fun h => absurd rfl h)
          refine ev_bind0 (a := l[i].all fun x => decide (0 ≤ x) && decide (x ≤ (l.length : Int) - 1)) rfl ?_
          cases ha : (l[i].all fun x => decide (0 ≤ x) && decide (x ≤ (l.length : Int) - 1)) with
          | false => exact ev_some (fun _ => by simp)
          | true =>
            refine ev_if (fun _ => ?_) (fun h => absurd rfl h)
            refine Ev.bind (contains_ev l[i] (i : Int) (by omega)) ?_
            cases hc : l[i].contains (i : Int) with
            | true => exact ev_some (fun _ => by simp)
            | false =>
              refine ev_if (fun h => by simp at h) (fun _ => ?_)
              simpa using ih) 0 (Nat.zero_le _)
  exact Ev.congr (f := fun k => impl_IsFame.l0 k l l (l.length : Int) 0) (fun k => rfl) (by simpa [fame] using q)

/-- The inner loop of the reference: from an index on, is the list rising; then the next person. -/
theorem haFame_l1 (n : Int) (x : List Int) (L : List (List Int)) (N a : Int) (h : x.length ≤ 1048576) (R : Bool) (ih : Ev (fun k => spec_haFame.l0 k n L N (wrap64 (a + 1))) R) :
    Ev (fun k => spec_haFame.l1 k n x 1 L N a) (rising x && R) := by
  have q := ev_from (lo := 1) (n := max 1 x.length) (loop := fun k i => spec_haFame.l1 k n x (i : Int) L N a) (r := fun i => ((List.range x.length).drop i).all (risesAt x) && R)
    (Ev.step (f := fun k => spec_haFame.l0 k n L N (wrap64 (a + 1))) (fun k => by simp only [spec_haFame.l1]; rw [if_neg (by omega)]) (by rw [all_end _ (by omega), Bool.true_and]; exact ih))
    (fun i h0 hi ih2 => by
      have hl : i < x.length := by omega
      rw [all_step _ hl]
      have e : risesAt x i = decide (x[i-1] < x[i]) := by
        unfold risesAt
        rw [show ((i : Int) - 1) = ((i - 1 : Nat) : Int) by omega, rd_at hl, rd_at (by omega : i - 1 < x.length)]
      rw [e]
      by_cases c : x[i-1] ≥ x[i]
      · refine Ev.step (f := fun _ => some false) (fun k => ?_) (by rw [decide_eq_false (by omega)]; simpa using Ev.now false)
        simp only [spec_haFame.l1]
        rw [pred_cast h0 (by omega), if_pos (by omega), if_pos (by omega), if_pos (by omega), if_pos (by omega), rd_at hl, rd_at (by omega : i - 1 < x.length), if_pos c]
      · refine Ev.step (f := fun k => spec_haFame.l1 k n x ((i + 1 : Nat) : Int) L N a) (fun k => ?_) (by rw [decide_eq_true (by omega), Bool.true_and]; exact ih2)
        simp only [spec_haFame.l1]
        rw [pred_cast h0 (by omega), if_pos (by omega), if_pos (by omega), if_pos (by omega), if_pos (by omega), rd_at hl, rd_at (by omega : i - 1 < x.length), if_neg c, succ_cast hl (by omega)]) 1 (Nat.le_refl _) (by omega)
  exact q

theorem haFame_ev (l : List (List Int)) (h : l.length ≤ 1048576) (hx : ∀ x ∈ l, x.length ≤ 1048576) : Ev (fun k => spec_haFame.f k l) (fame l) := by
  unfold spec_haFame.f fame
  refine ev_bind0 (l1In_eq _ _ _) ?_
  cases hb : (decide ((1 : Int) ≤ (l.length : Int)) && decide ((l.length : Int) ≤ 12)) with
  | false => exact ev_some (fun _ => by simp)
  | true =>
  refine ev_if (fun _ => ?_) (fun h => absurd rfl h)
  rw [Bool.true_and]
  have hn : 1 ≤ l.length ∧ l.length ≤ 12 := by
    simp only [Bool.and_eq_true, decide_eq_true_eq] at hb
    omega
  have q := ev_up (n := l.length) (loop := fun k i => spec_haFame.l0 k (l.length : Int) l (l.length : Int) (i : Int)) (r := fun i => ((List.range l.length).drop i).all (fameAt l.length l))
    (Ev.step (f := fun _ => some true) (fun k => by simp only [spec_haFame.l0]; rw [if_neg (by omega)]) (by rw [all_end _ (Nat.le_refl _)]; exact Ev.now _))
    (fun i hi ih => by
      have hxi := hx _ (List.getElem_mem hi)
      have hsucc : wrap64 ((i : Int) + 1) = ((i + 1 : Nat) : Int) := succ_cast hi (by omega)
      rw [all_step _ hi, fameAt_eq hi]
      have ih' : Ev (fun k => spec_haFame.l0 k (l.length : Int) l (l.length : Int) (wrap64 ((i : Int) + 1))) (((List.range l.length).drop (i + 1)).all (fameAt l.length l)) := by rw [hsucc]; exact ih
      have hj : ∀ t : Bool, Ev (fun k => spec_haFame.j1 k (l.length : Int) l[i] l (l.length : Int) (i : Int) t) (!t && (rising l[i] && ((List.range l.length).drop (i + 1)).all (fameAt l.length l))) := by
        intro t
        cases t with
        | true => exact Ev.step (f := fun _ => some false) (fun k => by simp [spec_haFame.j1]) (by simpa using Ev.now false)
        | false =>
          refine Ev.step (f := fun k => spec_haFame.l1 k (l.length : Int) l[i] 1 l (l.length : Int) (i : Int)) (fun k => by simp [spec_haFame.j1]) ?_
          simpa using haFame_l1 (l.length : Int) l[i] l (l.length : Int) (i : Int) hxi _ ih'
      by_cases c1 : ((l[i].length : Int)) > (l.length : Int)
      · -- a list that is too long is not rising within its bounds
        refine Ev.step (f := fun k => spec_haFame.j1 k (l.length : Int) l[i] l (l.length : Int) (i : Int) true) (fun k => ?_) ?_
        · simp only [spec_haFame.l0]
          rw [if_pos (by omega), if_pos (by omega), if_pos (by omega), rdL_at hi, if_pos c1]
        · have e : (rising l[i] && ((l[i].all fun x => decide (0 ≤ x) && decide (x ≤ (l.length : Int) - 1)) && !l[i].contains (i : Int))) = false := by
            cases hr : rising l[i] with
            | false => simp
            | true =>
              cases ha : (l[i].all fun x => decide (0 ≤ x) && decide (x ≤ (l.length : Int) - 1)) with
              | false => simp
              | true =>
                exfalso
                have hb2 : ∀ x ∈ l[i], 0 ≤ x ∧ x ≤ (l.length : Int) - 1 := by simpa using ha
                have := rising_len hr hb2 (by intro e0; rw [e0] at c1; simp at c1; omega)
                omega
          rw [e, Bool.false_and]
          simpa using hj true
      · refine Ev.step (f := fun k => (spec_l1All.f k l[i] 0 ((l.length : Int) - 1)).bind fun t => if t = true then (spec_l1Has.f k l[i] (i : Int)).bind fun t => spec_haFame.j1 k (l.length : Int) l[i] l (l.length : Int) (i : Int) t else spec_haFame.j1 k (l.length : Int) l[i] l (l.length : Int) (i : Int) true) (fun k => ?_) ?_
        · simp only [spec_haFame.l0]
          rw [if_pos (by omega), if_pos (by omega), if_pos (by omega), rdL_at hi, if_neg c1, wrap_id (x := (l.length : Int) - 1) (by omega) (by omega)]
        · refine Ev.bind (l1All_ev l[i] _ _ (by omega)) ?_
          cases ha : (l[i].all fun x => decide (0 ≤ x) && decide (x ≤ (l.length : Int) - 1)) with
          | false =>
            refine ev_if (fun h => by simp at h) (fun _ => ?_)
            simpa using hj true
          | true =>
            refine ev_if (fun _ => ?_) (fun h => absurd rfl h)
            refine Ev.bind (l1Has_ev l[i] (i : Int) (by omega)) ?_
            have := hj (l[i].contains (i : Int))
            cases hc : l[i].contains (i : Int) <;> rw [hc] at this <;> simpa using this) 0 (Nat.zero_le _)
  simpa using q

theorem fame_of {l : List (List Int)} (h : fame l = true) : 1 ≤ l.length ∧ l.length ≤ 12 ∧ ∀ a, (ha : a < l.length) → rising l[a] = true ∧ (∀ x ∈ l[a], 0 ≤ x ∧ x ≤ (l.length : Int) - 1) ∧ l[a].contains (a : Int) = false := by
  unfold fame at h
  simp only [Bool.and_eq_true, decide_eq_true_eq, List.all_eq_true, List.mem_range] at h
  obtain ⟨⟨h1, h2⟩, h3⟩ := h
  refine ⟨by omega, by omega, fun a ha => ?_⟩
  have q := h3 a ha
  rw [fameAt_eq ha] at q
  simp only [Bool.and_eq_true, List.all_eq_true, decide_eq_true_eq, Bool.not_eq_true'] at q
  exact ⟨q.1, fun x hx => q.2.1 x hx, q.2.2⟩
end Go.Proofs.Ytlacnnnmeolomaa.Plain
