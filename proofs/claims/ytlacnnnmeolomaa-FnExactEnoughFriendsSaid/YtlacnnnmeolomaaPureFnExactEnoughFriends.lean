/- The program's EnoughFriends returns what the reference's returns, for all arguments. No condition. -/
import Derived.Test.YtlacnnnmeolomaaQ0
import Derived.Test.YtlacnnnmeolomaaQ12
import Derived.Test.YtlacnnnmeolomaaQ46
import Derived.Test.YtlacnnnmeolomaaQ139
import Derived.Test.YtlacnnnmeolomaaQ142
import Derived.Test.YtlacnnnmeolomaaQ143
import Derived.Test.YtlacnnnmeolomaaSayFnExactEnoughFriends
import Derived.Test.YtlacnnnmeolomaaBase
import Derived.Test.YtlacnnnmeolomaaInts
import Derived.Test.YtlacnnnmeolomaaParty
import Derived.Test.YtlacnnnmeolomaaGraph
import Derived.Test.YtlacnnnmeolomaaTable
import Derived.Test.YtlacnnnmeolomaaCount16
import Derived.Test.YtlacnnnmeolomaaNums
import Derived.Test.YtlacnnnmeolomaaPartyLaw
import Derived.Test.YtlacnnnmeolomaaGood
import Derived.Test.YtlacnnnmeolomaaFriends
import Derived.Test.YtlacnnnmeolomaaMin
namespace Go.Proofs.Ytlacnnnmeolomaa.Pure
open Go.RowKit Go.Proofs.YtlacnnnmeolomaaW.PrintWords Go.Proofs.YtlacnnnmeolomaaW.PrintLast
set_option linter.unusedVariables false
open Q Plain

/-- What both sides tell. -/
def enough (n : Int) (l : List Pr) : Bool × Bool := if party n l = true then (decide (n ≥ 3) && (numsF n.toNat (adj l)).all fun x => decide (2 * x ≥ n), true) else (false, false)

theorem numsF_range {n : Nat} (f : Nat → Nat → Bool) (hn : n ≤ 12) : ∀ x ∈ numsF n f, 0 ≤ x ∧ x ≤ 12 := by
  intro x hx
  obtain ⟨a, _, rfl⟩ := List.mem_map.1 hx
  have := cnt_le (f a) n
  omega

theorem spec_ev (n : Int) (l : List Pr) (h : l.length ≤ 9223372036854775807) : Ev (fun k => spec_EnoughFriends.f k n l) (enough n l) := by
  unfold spec_EnoughFriends.f
  refine Ev.bind (paGood_ev n l h) ?_
  refine ev_if (fun b => ?_) (fun b => by unfold enough; rw [if_neg b]; exact Ev.now _)
  obtain ⟨m, rfl, hm, hr, hs⟩ := party_right b
  unfold enough
  rw [if_pos b, Int.toNat_natCast]
  refine Ev.bind (paNumbers_ev hm hr hs h) ?_
  have hx := numsF_range (adj l) hm
  have hl : (numsF m (adj l)).length ≤ 12 := by rw [numsF_length]; exact hm
  generalize numsF m (adj l) = z at hx hl
  · have q := ev_up (n := z.length) (loop := fun k i => spec_EnoughFriends.l0 k z (z.length : Int) (i : Int) (m : Int) l) (r := fun i => if ((z.drop i).all fun x => decide (2 * x ≥ (m : Int))) = true then (decide ((m : Int) > 2), true) else (false, true))
      (Ev.step (f := fun _ => some (decide ((m : Int) > 2), true)) (fun k => by simp only [spec_EnoughFriends.l0]; rw [if_neg (by omega)]) (by simpa using Ev.now _))
      (fun i hi ih => by
        have hxi := hx _ (List.getElem_mem hi)
        rw [List.drop_eq_getElem_cons hi, List.all_cons]
        by_cases c : 2 * z[i] < (m : Int)
        · refine Ev.step (f := fun _ => some (false, true)) (fun k => ?_) (by rw [decide_eq_false (by omega), Bool.false_and, if_neg (by simp)]; exact Ev.now _)
          simp only [spec_EnoughFriends.l0]
          rw [if_pos (by omega), if_pos (by omega), if_pos (by omega), rd_at hi, wrap_id (by omega) (by omega), if_pos c]
        · refine Ev.step (f := fun k => spec_EnoughFriends.l0 k z (z.length : Int) ((i + 1 : Nat) : Int) (m : Int) l) (fun k => ?_) (by rw [decide_eq_true (by omega), Bool.true_and]; exact ih)
          simp only [spec_EnoughFriends.l0]
          rw [if_pos (by omega), if_pos (by omega), if_pos (by omega), rd_at hi, wrap_id (by omega) (by omega), if_neg c, succ_cast hi (by omega)]) 0 (Nat.zero_le _)
    have e : (if ((z.drop 0).all fun x => decide (2 * x ≥ (m : Int))) = true then (decide ((m : Int) > 2), true) else (false, true)) = (decide ((m : Int) ≥ 3) && z.all fun x => decide (2 * x ≥ (m : Int)), true) := by
      rw [List.drop_zero]
      have d : decide ((m : Int) > 2) = decide ((m : Int) ≥ 3) := by apply decide_eq_decide.mpr; omega
      rw [d]
      cases (z.all fun x => decide (2 * x ≥ (m : Int))) <;> simp
    rw [e] at q
    exact q

theorem impl_ev (n : Int) (l : List Pr) (h : l.length ≤ 9223372036854775807) : Ev (fun k => impl_EnoughFriends.f k n l) (enough n l) := by
  unfold impl_EnoughFriends.f
  refine Ev.bind (numbersOfFriends_ev n l h) ?_
  by_cases b : party n l = true
  · obtain ⟨m, rfl, hm, hr, hs⟩ := party_right b
    unfold enough
    rw [if_pos b, if_pos b, Int.toNat_natCast]
    refine ev_if (fun _ => ?_) (fun h => absurd rfl h)
    have hl : (numsF m (adj l)).length = m := numsF_length _ _
    have hx := numsF_range (adj l) hm
    refine ev_if (fun c => ?_) (fun c => ?_)
    · replace c : ((numsF m (adj l)).length : Int) ≥ 3 := c
      obtain ⟨r, h1, h2, h3⟩ := min_ev (numsF m (adj l)) (by omega) (by omega)
      refine Ev.bind h1 ?_
      have hrr := hx r h2
      have e : decide ((wrap64 (2 * r)) ≥ ((numsF m (adj l)).length : Int)) = (decide ((m : Int) ≥ 3) && (numsF m (adj l)).all fun x => decide (2 * x ≥ (m : Int))) := by
        rw [wrap_id (by omega) (by omega), hl, decide_eq_true (show (m : Int) ≥ 3 by omega), Bool.true_and, Bool.eq_iff_iff, decide_eq_true_eq, List.all_eq_true]
        constructor
        · intro q x hx2
          have := h3 x hx2
          simpa using (by omega : 2 * x ≥ (m : Int))
        · intro q
          simpa using q r h2
      rw [e]; exact Ev.now _
    · replace c : ¬ ((numsF m (adj l)).length : Int) ≥ 3 := c
      rw [decide_eq_false (show ¬ ((m : Int) ≥ 3) by omega), Bool.false_and]
      exact Ev.now _
  · unfold enough
    rw [if_neg b, if_neg b]
    exact ev_some (fun _ => rfl)

theorem FnExactEnoughFriends : laws_FnExactEnoughFriends.Pure := by
  intro n l _ hl _
  refine Ev.rounds (g := fun k => laws_FnExactEnoughFriends.f k n l) ?_
  unfold laws_FnExactEnoughFriends.f
  refine ev_bind0 (szParty_eq n l 1048576 (by omega) (by omega) hl) ?_
  refine ev_if (fun _ => Ev.now _) (fun hb => ?_)
  have hs : l.length ≤ 1048576 := by
    by_cases h : (1048576 : Int) < (l.length : Int)
    · rw [if_pos h] at hb; omega
    · omega
  have hT := toParty_ev n l (by omega)
  have hl2 : (l.map toP).length ≤ 9223372036854775807 := by rw [List.length_map]; exact hl
  have hrest : ∀ x42 : Bool, x42 = false → Ev (fun k => laws_FnExactEnoughFriends.j0 k x42 n l n (l.map toP)) true := by
    intro x42 he
    refine Ev.step (f := fun k => (laws_toParty.f k n l).bind fun bt => (laws_eqParty.f k n (l.map toP) bt.1 bt.2).bind fun t => if t = true then some true else some false) (fun k => ?_) ?_
    · simp only [laws_FnExactEnoughFriends.j0]
      rw [if_neg (by rw [he]; simp)]
    · refine Ev.bind hT ?_
      exact Ev.bind (f := fun _ t => if t = true then some true else some false) (eqParty_ev n _ hl2) (ev_some (fun _ => rfl))
  refine Ev.bind hT ?_
  refine Ev.bind (spec_ev n _ hl2) ?_
  refine Ev.bind hT ?_
  refine Ev.bind (impl_ev n _ hl2) ?_
  refine ev_if (fun h => absurd h (by simp)) (fun _ => ?_)
  exact hrest _ (by simp)
end Go.Proofs.Ytlacnnnmeolomaa.Pure
