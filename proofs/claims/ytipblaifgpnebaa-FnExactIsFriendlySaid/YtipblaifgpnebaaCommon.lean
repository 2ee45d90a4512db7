/- The reference's common friends and its friendliness. No condition but that there are at most twelve people. -/
import Derived.Test.YtipblaifgpnebaaQ0
import Derived.Test.YtipblaifgpnebaaQ31
import Derived.Test.YtipblaifgpnebaaQ33
import Derived.Test.YtipblaifgpnebaaQ34
import Derived.Test.YtipblaifgpnebaaBase
import Derived.Test.YtipblaifgpnebaaInts
import Derived.Test.YtipblaifgpnebaaParty
import Derived.Test.YtipblaifgpnebaaGraph
import Derived.Test.YtipblaifgpnebaaTable
import Derived.Test.YtipblaifgpnebaaTableB
import Derived.Test.YtipblaifgpnebaaGood
import Derived.Test.YtipblaifgpnebaaFriendship
import Derived.Test.YtipblaifgpnebaaFriendly
namespace Go.Proofs.Ytipblaifgpnebaa.Plain
open Go.RowKit Go.Proofs.YtipblaifgpnebaaW.PrintWords Go.Proofs.YtipblaifgpnebaaW.PrintLast
set_option linter.unusedVariables false
open Q

theorem cfSome_ev (n : Int) (l : List Pr) (h : l.length ≤ 9223372036854775807) : Ev (fun k => spec_cfSome.f k n l) (someParty n l) := by
  unfold spec_cfSome.f someParty
  refine Ev.bind (paGood_ev n l h) ?_
  cases party n l with
  | true => exact ev_some (fun _ => by simp)
  | false => exact ev_some (fun _ => by simp)

/-- The common friends of two. -/
def comL (n : Nat) (f : Nat → Nat → Bool) (a b : Nat) : List Int := ((List.range n).filter fun c => f a c && f b c).map fun c : Nat => (c : Int)
theorem comL_length (n : Nat) (f : Nat → Nat → Bool) (a b : Nat) : (comL n f a b).length = com f n a b := by
  unfold comL com cnt
  rw [List.length_map, List.countP_eq_length_filter]

theorem cfCommon_ev {n : Nat} (hn : n ≤ 12) (f : Nat → Nat → Bool) {a b : Nat} (ha : a < n) (hb : b < n) : Ev (fun k => spec_cfCommon.f k (tabB n f) (a : Int) (b : Int)) (comL n f a b) := by
  unfold spec_cfCommon.f
  rw [tabB_length]
  have la : (rd_L5 (tabB n f) (a : Int)).length = n := by rw [tabB_get ha, rowB_length]
  have lb : (rd_L5 (tabB n f) (b : Int)).length = n := by rw [tabB_get hb, rowB_length]
  have va : ∀ c, c < n → rdOf false (rd_L5 (tabB n f) (a : Int)) (c : Int) = f a c := fun c hc => by rw [rdOfB_at (by rw [la]; exact hc)]; simp only [tabB_get ha, rowB_get]
  have vb : ∀ c, c < n → rdOf false (rd_L5 (tabB n f) (b : Int)) (c : Int) = f b c := fun c hc => by rw [rdOfB_at (by rw [lb]; exact hc)]; simp only [tabB_get hb, rowB_get]
  have q : ∀ d i acc, i ≤ n → n - i = d → List.length acc ≤ i → Ev (fun k => spec_cfCommon.l0 k (tabB n f) (a : Int) (b : Int) acc (n : Int) (i : Int)) (acc ++ (((List.range n).drop i).filter fun c => f a c && f b c).map fun c : Nat => (c : Int)) := by
    intro d
    induction d with
    | zero =>
      intro i acc hi hd _
      have e : i = n := by omega
      subst e
      rw [List.drop_of_length_le (by simp)]
      refine Ev.step (f := fun _ => some acc) (fun k => ?_) (by simpa using Ev.now acc)
      simp only [spec_cfCommon.l0]
      rw [if_neg (by omega)]
    | succ d ih =>
      intro i acc hi hd hacc
      have hin : i < n := by omega
      rw [List.drop_eq_getElem_cons (by simpa using hin), List.getElem_range]
      by_cases c1 : f a i = true
      · by_cases c2 : f b i = true
        · refine Ev.step (f := fun k => spec_cfCommon.l0 k (tabB n f) (a : Int) (b : Int) (acc ++ [(i : Int)]) (n : Int) ((i + 1 : Nat) : Int)) (fun k => ?_) (by
            have := ih (i + 1) (acc ++ [(i : Int)]) (by omega) (by omega) (by simp; omega)
            rw [List.filter_cons_of_pos (by simp [c1, c2])]
            simpa using this)
          simp only [spec_cfCommon.l0]
          rw [if_pos (by omega), if_pos (by omega), if_pos (by rw [tabB_length]; omega), if_pos (by omega), if_pos (by rw [la]; omega), va i hin, if_pos c1, if_pos (by omega), if_pos (by rw [tabB_length]; omega), if_pos (by rw [lb]; omega), vb i hin, if_pos c2, if_pos (by omega), succ_cast hin (by omega)]
        · refine Ev.step (f := fun k => spec_cfCommon.l0 k (tabB n f) (a : Int) (b : Int) acc (n : Int) ((i + 1 : Nat) : Int)) (fun k => ?_) (by
            rw [List.filter_cons_of_neg (by simp [c2])]
            exact ih (i + 1) acc (by omega) (by omega) (by omega))
          simp only [spec_cfCommon.l0]
          rw [if_pos (by omega), if_pos (by omega), if_pos (by rw [tabB_length]; omega), if_pos (by omega), if_pos (by rw [la]; omega), va i hin, if_pos c1, if_pos (by omega), if_pos (by rw [tabB_length]; omega), if_pos (by rw [lb]; omega), vb i hin, if_neg c2, succ_cast hin (by omega)]
      · refine Ev.step (f := fun k => spec_cfCommon.l0 k (tabB n f) (a : Int) (b : Int) acc (n : Int) ((i + 1 : Nat) : Int)) (fun k => ?_) (by
          rw [List.filter_cons_of_neg (by simp [c1])]
          exact ih (i + 1) acc (by omega) (by omega) (by omega))
        simp only [spec_cfCommon.l0]
        rw [if_pos (by omega), if_pos (by omega), if_pos (by rw [tabB_length]; omega), if_pos (by omega), if_pos (by rw [la]; omega), va i hin, if_neg c1, succ_cast hin (by omega)]
  have := q n 0 [] (Nat.zero_le _) rfl (by simp)
  simpa [comL] using this

theorem cfFriendly_ev {n : Nat} {l : List Pr} (hn : n ≤ 12) (hr : Right n l) (h : l.length ≤ 9223372036854775807) : Ev (fun k => spec_cfFriendly.f k (n : Int) l) (friendlyB n (adj l)) := by
  unfold spec_cfFriendly.f
  refine Ev.bind (paTable_ev hn hr h) ?_
  rw [tabB_length]
  generalize adj l = f
  have q := ev_up (n := n) (loop := fun k a => spec_cfFriendly.l0 k (tabB n f) (n : Int) (a : Int)) (r := fun a => (((List.range n).drop a).all (fun a => (List.range a).all fun b => decide (com f n a b = 1))))
    (Ev.step (f := fun _ => some true) (fun k => by simp only [spec_cfFriendly.l0]; rw [if_neg (by omega)]) (by rw [all_end _ (Nat.le_refl _)]; exact Ev.now _))
    (fun a ha ih => by
      rw [all_step _ ha]
      have q2 := ev_up (n := a) (loop := fun k b => spec_cfFriendly.l1 k (tabB n f) (a : Int) (b : Int) (n : Int) (a : Int)) (r := fun b => (((List.range a).drop b).all (fun b => decide (com f n a b = 1)) && ((List.range n).drop (a + 1)).all (fun a => (List.range a).all fun b => decide (com f n a b = 1))))
        (Ev.step (f := fun k => spec_cfFriendly.l0 k (tabB n f) (n : Int) ((a + 1 : Nat) : Int)) (fun k => by simp only [spec_cfFriendly.l1]; rw [if_neg (by omega), succ_cast ha (by omega)]) (by rw [all_end _ (Nat.le_refl _), Bool.true_and]; exact ih))
        (fun b hb ih2 => by
          rw [all_step _ hb]
          refine Ev.step (f := fun k => (spec_cfCommon.f k (tabB n f) (a : Int) (b : Int)).bind fun t => if (t.length : Int) = 1 then spec_cfFriendly.l1 k (tabB n f) (a : Int) (wrap64 ((b : Int) + 1)) (n : Int) (a : Int) else some false) (fun k => ?_) ?_
          · simp only [spec_cfFriendly.l1]
            rw [if_pos (by omega)]
          · refine Ev.bind (cfCommon_ev hn f ha (by omega)) ?_
            rw [comL_length, succ_cast hb (by omega)]
            refine ev_if (fun c => ?_) (fun c => ?_)
            · rw [decide_eq_true (by omega), Bool.true_and]; exact ih2
            · rw [decide_eq_false (by omega)]; simpa using Ev.now false) 0 (Nat.zero_le _)
      refine Ev.step (f := fun k => spec_cfFriendly.l1 k (tabB n f) (a : Int) 0 (n : Int) (a : Int)) (fun k => ?_) (by simpa using q2)
      simp only [spec_cfFriendly.l0]
      rw [if_pos (by omega)]) 0 (Nat.zero_le _)
  simpa [friendlyB] using q
end Go.Proofs.Ytipblaifgpnebaa.Plain
