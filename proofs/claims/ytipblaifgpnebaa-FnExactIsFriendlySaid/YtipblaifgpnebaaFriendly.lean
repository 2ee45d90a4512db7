/- The program's IsFriendly. No condition but a length that fits. -/
import Derived.Test.YtipblaifgpnebaaQ0
import Derived.Test.YtipblaifgpnebaaQ36
import Derived.Test.YtipblaifgpnebaaQ37
import Derived.Test.YtipblaifgpnebaaQ38
import Derived.Test.YtipblaifgpnebaaBase
import Derived.Test.YtipblaifgpnebaaInts
import Derived.Test.YtipblaifgpnebaaParty
import Derived.Test.YtipblaifgpnebaaGraph
import Derived.Test.YtipblaifgpnebaaTable
import Derived.Test.YtipblaifgpnebaaCount16
import Derived.Test.YtipblaifgpnebaaFriendship
namespace Go.Proofs.Ytipblaifgpnebaa.Plain
open Go.RowKit Go.Proofs.YtipblaifgpnebaaW.PrintWords Go.Proofs.YtipblaifgpnebaaW.PrintLast
set_option linter.unusedVariables false
open Q

/-- Each two people have just one common friend. -/
def friendlyB (n : Nat) (f : Nat → Nat → Bool) : Bool := (List.range n).all fun a => (List.range a).all fun b => decide (com f n a b = 1)

theorem friendlyB_iff {n : Nat} {f : Nat → Nat → Bool} : friendlyB n f = true ↔ Friendly f n := by
  unfold friendlyB Friendly
  simp only [List.all_eq_true, List.mem_range, decide_eq_true_eq]
  constructor
  · intro h a b ha hb hab
    rcases Nat.lt_or_ge b a with c | c
    · exact h a ha b c
    · have := h b hb a (by omega)
      unfold com at this ⊢
      rw [← this]
      exact cnt_congr (fun z _ => Bool.and_comm _ _)
  · intro h a ha b hb
    exact h a b ha (by omega) (by omega)

theorem common_eq {n : Nat} (hn : n ≤ 12) (f : Nat → Nat → Bool) {a b : Nat} (ha : a < n) (hb : b < n) : impl_table_common.f (tabF n f) (a : Int) (b : Int) = some ((com f n a b : Nat) : Int) := by
  unfold impl_table_common.f
  rw [if_pos (by omega), if_pos (by rw [tabF_length]; omega), if_pos (by omega), if_pos (by rw [tabF_length]; omega), tabF_get ha, tabF_get hb, and16 (mask16 (by omega)) (mask16 (by omega)), mask_and, count_mask (by omega)]
  rfl

theorem friendly_l0 {n : Nat} (hn : n ≤ 12) (f : Nat → Nat → Bool) : Ev (fun k => impl_IsFriendly.l0 k (tabF n f) (n : Int) 0) (friendlyB n f, true) := by
  have q := ev_up (n := n) (loop := fun k a => impl_IsFriendly.l0 k (tabF n f) (n : Int) (a : Int)) (r := fun a => (((List.range n).drop a).all (fun a => (List.range a).all fun b => decide (com f n a b = 1)), true))
    (Ev.step (f := fun _ => some (true, true)) (fun k => by simp only [impl_IsFriendly.l0]; rw [if_neg (by omega)]) (by rw [all_end _ (Nat.le_refl _)]; exact Ev.now _))
    (fun a ha ih => by
      rw [all_step _ ha]
      have q2 := ev_up (n := a) (loop := fun k b => impl_IsFriendly.l1 k (tabF n f) (a : Int) (n : Int) (a : Int) (a : Int) (b : Int)) (r := fun b => (((List.range a).drop b).all (fun b => decide (com f n a b = 1)) && ((List.range n).drop (a + 1)).all (fun a => (List.range a).all fun b => decide (com f n a b = 1)), true))
        (Ev.step (f := fun k => impl_IsFriendly.l0 k (tabF n f) (n : Int) ((a + 1 : Nat) : Int)) (fun k => by simp only [impl_IsFriendly.l1]; rw [if_neg (by omega), succ_cast ha (by omega)]) (by rw [all_end _ (Nat.le_refl _), Bool.true_and]; exact ih))
        (fun b hb ih2 => by
          rw [all_step _ hb]
          by_cases c : com f n a b = 1
          · refine Ev.step (f := fun k => impl_IsFriendly.l1 k (tabF n f) (a : Int) (n : Int) (a : Int) (a : Int) ((b + 1 : Nat) : Int)) (fun k => ?_) (by rw [decide_eq_true c, Bool.true_and]; exact ih2)
            simp only [impl_IsFriendly.l1]
            rw [if_pos (by omega), common_eq hn f ha (by omega), Option.bind_some, if_pos (by omega), succ_cast hb (by omega)]
          · refine Ev.step (f := fun _ => some (false, true)) (fun k => ?_) (by rw [decide_eq_false c]; simpa using Ev.now (false, true))
            simp only [impl_IsFriendly.l1]
            rw [if_pos (by omega), common_eq hn f ha (by omega), Option.bind_some, if_neg (by omega)]) 0 (Nat.zero_le _)
      refine Ev.step (f := fun k => impl_IsFriendly.l1 k (tabF n f) (a : Int) (n : Int) (a : Int) (a : Int) 0) (fun k => ?_) (by simpa using q2)
      simp only [impl_IsFriendly.l0]
      rw [if_pos (by omega)]) 0 (Nat.zero_le _)
  simpa [friendlyB] using q

/-- A party of somebody. -/
def someParty (n : Int) (l : List Pr) : Bool := party n l && decide (n > 0)

theorem isCrowded_ev (n : Int) (l : List Pr) (h : l.length ≤ 9223372036854775807) : Ev (fun k => impl_isCrowded.f k n l) (someParty n l) := by
  unfold impl_isCrowded.f someParty
  refine Ev.bind (isParty_ev n l h) ?_
  cases party n l with
  | true => exact ev_some (fun _ => by simp)
  | false => exact ev_some (fun _ => by simp)

theorem isFriendly_ev (n : Int) (l : List Pr) (h : l.length ≤ 9223372036854775807) : Ev (fun k => impl_IsFriendly.f k n l) (if someParty n l = true then (friendlyB n.toNat (adj l), true) else (false, false)) := by
  unfold impl_IsFriendly.f
  refine Ev.bind (isCrowded_ev n l h) ?_
  refine ev_if (fun b => ?_) (fun b => by rw [if_neg b]; exact Ev.now _)
  rw [if_pos b]
  have bp : party n l = true := by unfold someParty at b; simp only [Bool.and_eq_true] at b; exact b.1
  obtain ⟨m, rfl, hm, hr, _⟩ := party_right bp
  refine Ev.bind (table_ev hm hr h) ?_
  rw [tabF_length, Int.toNat_natCast]
  exact friendly_l0 hm (adj l)
end Go.Proofs.Ytipblaifgpnebaa.Plain
