/- slices.Index and slices.Contains over whole numbers. No condition but a length that fits. -/
import Derived.Test.YtipblaifgpnebaaQ0
import Derived.Test.YtipblaifgpnebaaQ25
import Derived.Test.YtipblaifgpnebaaBase
namespace Go.Proofs.Ytipblaifgpnebaa.Plain
open Go.RowKit Go.Proofs.YtipblaifgpnebaaW.PrintWords Go.Proofs.YtipblaifgpnebaaW.PrintLast
set_option linter.unusedVariables false
open Q

/-- The first place of a number, -1 if there is none. -/
def idxI : List Int → Int → Int
  | [], _ => -1
  | x :: t, a => if a = x then 0 else if idxI t a < 0 then -1 else idxI t a + 1

theorem idxI_range : ∀ (l : List Int) (a : Int), -1 ≤ idxI l a ∧ idxI l a < l.length
  | [], _ => by simp [idxI]
  | x :: t, a => by
    have := idxI_range t a
    have hl : ((x :: t).length : Int) = t.length + 1 := by simp
    unfold idxI
    split
    · omega
    · split <;> omega

theorem idxI_mem : ∀ (l : List Int) (a : Int), decide (idxI l a ≥ 0) = l.contains a
  | [], a => by simp [idxI]
  | x :: t, a => by
    have ih := idxI_mem t a
    have hr := idxI_range t a
    rw [List.contains_cons]
    unfold idxI
    by_cases e : a = x
    · rw [if_pos e, e]; simp
    · have e2 : (a == x) = false := by simpa using e
      rw [if_neg e, e2, Bool.false_or, ← ih]
      by_cases h : idxI t a < 0
      · rw [if_pos h]
        have : ¬ (idxI t a ≥ 0) := by omega
        simp [this]
      · rw [if_neg h]
        have h1 : idxI t a ≥ 0 := by omega
        have h2 : idxI t a + 1 ≥ 0 := by omega
        simp [h1, h2]

theorem index_ev (l : List Int) (a : Int) (h : l.length ≤ 9223372036854775807) : Ev (fun k => slices_Index_int_int.f k l a) (idxI l a) := by
  have q := ev_up (n := l.length) (loop := fun k i => slices_Index_int_int.l0 k l a (l.length : Int) (i : Int)) (r := fun i => if idxI (l.drop i) a < 0 then -1 else (i : Int) + idxI (l.drop i) a)
    (Ev.step (f := fun _ => some (-1)) (fun k => by simp [slices_Index_int_int.l0]) (by simpa [idxI] using Ev.now (-1 : Int)))
    (fun i hi ih => by
      rw [List.drop_eq_getElem_cons hi]
      by_cases e : a = l[i]
      · refine Ev.step (f := fun _ => some (i : Int)) (fun k => ?_) ?_
        · simp only [slices_Index_int_int.l0]
          rw [if_pos (by omega), if_pos (by omega), if_pos (by omega), rd_at hi, if_pos e]
        · have : idxI (l[i] :: l.drop (i + 1)) a = 0 := by unfold idxI; rw [if_pos e]
          rw [this]; simpa using Ev.now (i : Int)
      · refine Ev.step (f := fun k => slices_Index_int_int.l0 k l a (l.length : Int) ((i + 1 : Nat) : Int)) (fun k => ?_) ?_
        · simp only [slices_Index_int_int.l0]
          rw [if_pos (by omega), if_pos (by omega), if_pos (by omega), rd_at hi, if_neg e, succ_cast hi h]
        · have : idxI (l[i] :: l.drop (i + 1)) a = if idxI (l.drop (i + 1)) a < 0 then -1 else idxI (l.drop (i + 1)) a + 1 := by rw [idxI]; rw [if_neg e]
          rw [this]
          by_cases h2 : idxI (l.drop (i + 1)) a < 0
          · rw [if_pos h2] at ih ⊢; rw [if_pos (by omega)]; exact ih
          · rw [if_neg h2] at ih ⊢; rw [if_neg (by omega)]
            have e3 : ((i + 1 : Nat) : Int) + idxI (l.drop (i + 1)) a = (i : Int) + (idxI (l.drop (i + 1)) a + 1) := by omega
            rw [← e3]; exact ih) 0 (Nat.zero_le _)
  have e : (if idxI (l.drop 0) a < 0 then -1 else ((0 : Nat) : Int) + idxI (l.drop 0) a) = idxI l a := by
    have := idxI_range l a
    rw [List.drop_zero]
    split <;> omega
  rw [e] at q
  exact q

end Go.Proofs.Ytipblaifgpnebaa.Plain
