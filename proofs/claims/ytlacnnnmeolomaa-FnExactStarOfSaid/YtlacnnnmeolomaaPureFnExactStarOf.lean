/- The program's StarOf returns what the reference's returns, for all arguments. No condition. -/
import Derived.Test.YtlacnnnmeolomaaQ0
import Derived.Test.YtlacnnnmeolomaaQ20
import Derived.Test.YtlacnnnmeolomaaQ25
import Derived.Test.YtlacnnnmeolomaaQ29
import Derived.Test.YtlacnnnmeolomaaQ32
import Derived.Test.YtlacnnnmeolomaaQ105
import Derived.Test.YtlacnnnmeolomaaQ106
import Derived.Test.YtlacnnnmeolomaaQ107
import Derived.Test.YtlacnnnmeolomaaQ108
import Derived.Test.YtlacnnnmeolomaaSayFnExactStarOf
import Derived.Test.YtlacnnnmeolomaaBase
import Derived.Test.YtlacnnnmeolomaaInts
import Derived.Test.YtlacnnnmeolomaaHas
import Derived.Test.YtlacnnnmeolomaaIdx
import Derived.Test.YtlacnnnmeolomaaRise
import Derived.Test.YtlacnnnmeolomaaIntSS
import Derived.Test.YtlacnnnmeolomaaFame
namespace Go.Proofs.Ytlacnnnmeolomaa.Pure
open Go.RowKit Go.Proofs.YtlacnnnmeolomaaW.PrintWords Go.Proofs.YtlacnnnmeolomaaW.PrintLast
set_option linter.unusedVariables false
open Q Plain

/-- The person a is the star: all others know it, and it knows nobody. -/
def starAt (l : List (List Int)) (a : Nat) : Bool := (List.range l.length).all (fun x => decide (x = a) || (l.getD x []).contains (a : Int)) && decide (((l.getD a []).length : Int) = 0)
/-- The first star from a person on. -/
def starFrom (l : List (List Int)) : Nat → Nat → Int × Bool
  | 0, _ => (0, false)
  | d + 1, i => if starAt l i = true then ((i : Int), true) else starFrom l d (i + 1)

theorem isStar_ev (l : List (List Int)) (a : Nat) (ha : a < l.length) (h : l.length ≤ 1048576) (hx : ∀ x ∈ l, x.length ≤ 1048576) : Ev (fun k => impl_isStar.f k l (a : Int)) (starAt l a) := by
  have q := ev_up (n := l.length) (loop := fun k i => impl_isStar.l0 k l (a : Int) l (l.length : Int) (i : Int)) (r := fun i => ((List.range l.length).drop i).all (fun x => decide (x = a) || (l.getD x []).contains (a : Int)) && decide (((l.getD a []).length : Int) = 0))
    (Ev.step (f := fun _ => some (decide (((l.getD a []).length : Int) = 0))) (fun k => by
      simp only [impl_isStar.l0]
      rw [if_neg (by omega), if_pos (by omega), if_pos (by omega), rdL_at ha, getD_at _ ha]
      rfl) (by rw [all_end _ (Nat.le_refl _), Bool.true_and]; exact Ev.now _))
    (fun i hi ih => by
      have hxi := hx _ (List.getElem_mem hi)
      rw [all_step _ hi, getD_at _ hi]
      by_cases e : i = a
      · refine Ev.step (f := fun k => impl_isStar.l0 k l (a : Int) l (l.length : Int) ((i + 1 : Nat) : Int)) (fun k => ?_) (by rw [decide_eq_true e]; simpa using ih)
        simp only [impl_isStar.l0]
        rw [if_pos (by omega), if_pos (by omega), if_pos (by omega), if_pos (by omega), succ_cast hi (by omega)]
      · refine Ev.step (f := fun k => (slices_Contains_int_int.f k l[i] (a : Int)).bind fun t => if t = true then impl_isStar.l0 k l (a : Int) l (l.length : Int) ((i + 1 : Nat) : Int) else some false) (fun k => ?_) ?_
        · simp only [impl_isStar.l0]
          rw [if_pos (by omega), if_pos (by omega), if_pos (by omega), if_neg (by omega), rdL_at hi, succ_cast hi (by omega)]
        · refine Ev.bind (contains_ev l[i] (a : Int) (by omega)) ?_
          rw [decide_eq_false e, Bool.false_or]
          cases hc : l[i].contains (a : Int) with
          | true => exact ev_if (fun _ => by simpa using ih) (fun h => absurd rfl h)
          | false => exact ev_some (fun _ => by simp)) 0 (Nat.zero_le _)
  have e : starAt l a = (((List.range l.length).drop 0).all (fun x => decide (x = a) || (l.getD x []).contains (a : Int)) && decide (((l.getD a []).length : Int) = 0)) := by
    rw [List.drop_zero]; rfl
  rw [e]
  exact q

theorem implStarOf_ev (l : List (List Int)) (h : l.length ≤ 1048576) (hx : ∀ x ∈ l, x.length ≤ 1048576) : Ev (fun k => impl_StarOf.f k l) (if fame l = true then starFrom l l.length 0 else (0, false)) := by
  unfold impl_StarOf.f
  refine Ev.bind (isFame_ev l h hx) ?_
  refine ev_if (fun b => ?_) (fun b => by rw [if_neg b]; exact Ev.now _)
  rw [if_pos b]
  have q := ev_up (n := l.length) (loop := fun k i => impl_StarOf.l0 k l (l.length : Int) (i : Int)) (r := fun i => starFrom l (l.length - i) i)
    (Ev.step (f := fun _ => some (0, false)) (fun k => by simp only [impl_StarOf.l0]; rw [if_neg (by omega)]) (by rw [Nat.sub_self]; exact Ev.now _))
    (fun i hi ih => by
      rw [show l.length - i = (l.length - (i + 1)) + 1 by omega, starFrom]
      refine Ev.step (f := fun k => (impl_isStar.f k l (i : Int)).bind fun t => if t = true then some ((i : Int), true) else impl_StarOf.l0 k l (l.length : Int) ((i + 1 : Nat) : Int)) (fun k => ?_) ?_
      · simp only [impl_StarOf.l0]
        rw [if_pos (by omega), succ_cast hi (by omega)]
      · refine Ev.bind (isStar_ev l i hi h hx) ?_
        refine ev_if (fun b => by rw [if_pos b]; exact Ev.now _) (fun b => ?_)
        rw [if_neg b]; exact ih) 0 (Nat.zero_le _)
  exact q

theorem specStarOf_ev (l : List (List Int)) (h : l.length ≤ 1048576) (hx : ∀ x ∈ l, x.length ≤ 1048576) : Ev (fun k => spec_StarOf.f k l) (if fame l = true then starFrom l l.length 0 else (0, false)) := by
  unfold spec_StarOf.f
  refine Ev.bind (haFame_ev l h hx) ?_
  refine ev_if (fun b => ?_) (fun b => by rw [if_neg b]; exact Ev.now _)
  rw [if_pos b]
  have q := ev_up (n := l.length) (loop := fun k i => spec_StarOf.l0 k l l (l.length : Int) (i : Int)) (r := fun i => starFrom l (l.length - i) i)
    (Ev.step (f := fun _ => some (0, false)) (fun k => by simp only [spec_StarOf.l0]; rw [if_neg (by omega)]) (by rw [Nat.sub_self]; exact Ev.now _))
    (fun a ha ih => by
      rw [show l.length - a = (l.length - (a + 1)) + 1 by omega, starFrom]
      have hsa : wrap64 ((a : Int) + 1) = ((a + 1 : Nat) : Int) := succ_cast ha (by omega)
      refine Ev.step (f := fun k => spec_StarOf.l1 k l (a : Int) (decide (((l.getD a []).length : Int) = 0)) l (l.length : Int) (a : Int) l (l.length : Int) 0) (fun k => ?_) ?_
      · simp only [spec_StarOf.l0]
        rw [if_pos (by omega), if_pos (by omega), if_pos (by omega), rdL_at ha, getD_at _ ha]
        rfl
      · -- the inner loop: its flag is false once somebody doesn't know the person
        have inner : ∀ d i (t : Bool), i ≤ l.length → l.length - i = d → Ev (fun k => spec_StarOf.l1 k l (a : Int) t l (l.length : Int) (a : Int) l (l.length : Int) (i : Int)) (if (t && ((List.range l.length).drop i).all (fun x => decide (x = a) || (l.getD x []).contains (a : Int))) = true then ((a : Int), true) else starFrom l (l.length - (a + 1)) (a + 1)) := by
          intro d
          induction d with
          | zero =>
            intro i t hi hd
            have e : i = l.length := by omega
            subst e
            rw [all_end _ (Nat.le_refl _), Bool.and_true]
            refine Ev.step (f := fun k => if t = true then some ((a : Int), true) else spec_StarOf.l0 k l l (l.length : Int) ((a + 1 : Nat) : Int)) (fun k => ?_) ?_
            · simp only [spec_StarOf.l1]
              rw [if_neg (by omega), hsa]
            · refine ev_if (fun b => by rw [if_pos b]; exact Ev.now _) (fun b => ?_)
              rw [if_neg b]; exact ih
          | succ d ihd =>
            intro i t hi hd
            have hil : i < l.length := by omega
            have hxi := hx _ (List.getElem_mem hil)
            rw [all_step _ hil, getD_at _ hil]
            have hsi : wrap64 ((i : Int) + 1) = ((i + 1 : Nat) : Int) := succ_cast hil (by omega)
            cases t with
            | false =>
              refine Ev.step (f := fun k => spec_StarOf.l1 k l (a : Int) false l (l.length : Int) (a : Int) l (l.length : Int) ((i + 1 : Nat) : Int)) (fun k => ?_) (by have := ihd (i + 1) false (by omega) (by omega); simpa using this)
              simp only [spec_StarOf.l1]
              rw [if_pos (by omega), if_pos (by omega), if_pos (by omega), if_neg (by simp), hsi]
            | true =>
              by_cases e : i = a
              · refine Ev.step (f := fun k => spec_StarOf.l1 k l (a : Int) true l (l.length : Int) (a : Int) l (l.length : Int) ((i + 1 : Nat) : Int)) (fun k => ?_) (by have := ihd (i + 1) true (by omega) (by omega); rw [decide_eq_true e]; simpa using this)
                simp only [spec_StarOf.l1]
                rw [if_pos (by omega), if_pos (by omega), if_pos (by omega), if_pos trivial, if_pos (by omega), hsi]
              · refine Ev.step (f := fun k => (spec_l1Has.f k l[i] (a : Int)).bind fun t => spec_StarOf.l1 k l (a : Int) t l (l.length : Int) (a : Int) l (l.length : Int) ((i + 1 : Nat) : Int)) (fun k => ?_) ?_
                · simp only [spec_StarOf.l1]
                  rw [if_pos (by omega), if_pos (by omega), if_pos (by omega), if_pos trivial, if_neg (by omega), rdL_at hil, hsi]
                · refine Ev.bind (l1Has_ev l[i] (a : Int) (by omega)) ?_
                  rw [decide_eq_false e, Bool.false_or, Bool.true_and]
                  exact ihd (i + 1) _ (by omega) (by omega)
        have q2 := inner l.length 0 (decide (((l.getD a []).length : Int) = 0)) (Nat.zero_le _) rfl
        have e : starAt l a = (decide (((l.getD a []).length : Int) = 0) && ((List.range l.length).drop 0).all (fun x => decide (x = a) || (l.getD x []).contains (a : Int))) := by
          rw [List.drop_zero, Bool.and_comm]; rfl
        rw [e]
        exact q2) 0 (Nat.zero_le _)
  exact q

theorem FnExactStarOf : laws_FnExactStarOf.Pure := by
  intro l hl hx
  refine Ev.rounds (g := fun k => laws_FnExactStarOf.f k l) ?_
  unfold laws_FnExactStarOf.f
  refine Ev.bind (szIntSS_ev l 1048576 (by omega) (by omega) hl (fun x h => (hx x h).1)) ?_
  refine ev_if (fun _ => Ev.now _) (fun b => ?_)
  have hs : l.length ≤ 1048576 := by
    by_cases h : (1048576 : Int) < (l.length : Int)
    · rw [if_pos h] at b; omega
    · omega
  rw [if_neg (by omega)] at b
  have hr : ∀ x ∈ l, x.length ≤ 1048576 := fun x h => by
    have := szR_len l (1048576 - l.length) (by omega) (by omega) x h
    omega
  have hT := toIntSS_ev l (by omega) (fun x h => by have := hr x h; omega)
  have hrest : ∀ x42 : Bool, x42 = false → Ev (fun k => laws_FnExactStarOf.j0 k l l x42) true := by
    intro x42 he
    refine Ev.step (f := fun k => (laws_toIntSS.f k l).bind fun bt => (laws_eqIntSS.f k l bt).bind fun t => if t = true then some true else some false) (fun k => ?_) ?_
    · simp only [laws_FnExactStarOf.j0]
      rw [if_neg (by rw [he]; simp)]
    · refine Ev.bind hT ?_
      exact Ev.bind (f := fun _ t => if t = true then some true else some false) (eqIntSS_ev l (by omega) (fun x h => by have := hr x h; omega)) (ev_some (fun _ => rfl))
  refine Ev.bind hT ?_
  refine Ev.bind (specStarOf_ev l hs hr) ?_
  refine Ev.bind hT ?_
  refine Ev.bind (implStarOf_ev l hs hr) ?_
  refine ev_if (fun _ => ?_) (fun h => absurd rfl h)
  exact hrest _ (by simp)
end Go.Proofs.Ytlacnnnmeolomaa.Pure
