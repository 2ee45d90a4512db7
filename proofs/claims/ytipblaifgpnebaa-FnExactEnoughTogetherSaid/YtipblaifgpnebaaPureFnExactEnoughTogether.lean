/- The program's EnoughTogether returns what the reference's returns, for all arguments. No condition. -/
import Derived.Test.YtipblaifgpnebaaQ0
import Derived.Test.YtipblaifgpnebaaQ12
import Derived.Test.YtipblaifgpnebaaQ13
import Derived.Test.YtipblaifgpnebaaQ29
import Derived.Test.YtipblaifgpnebaaQ78
import Derived.Test.YtipblaifgpnebaaQ79
import Derived.Test.YtipblaifgpnebaaQ80
import Derived.Test.YtipblaifgpnebaaSayFnExactEnoughTogether
import Derived.Test.YtipblaifgpnebaaBase
import Derived.Test.YtipblaifgpnebaaInts
import Derived.Test.YtipblaifgpnebaaParty
import Derived.Test.YtipblaifgpnebaaGraph
import Derived.Test.YtipblaifgpnebaaTable
import Derived.Test.YtipblaifgpnebaaTableB
import Derived.Test.YtipblaifgpnebaaPartyOf
import Derived.Test.YtipblaifgpnebaaOther
import Derived.Test.YtipblaifgpnebaaCount16
import Derived.Test.YtipblaifgpnebaaNums
import Derived.Test.YtipblaifgpnebaaPartyLaw
import Derived.Test.YtipblaifgpnebaaGood
import Derived.Test.YtipblaifgpnebaaFriends
namespace Go.Proofs.Ytipblaifgpnebaa.Pure
open Go.RowKit Go.Proofs.YtipblaifgpnebaaW.PrintWords Go.Proofs.YtipblaifgpnebaaW.PrintLast
set_option linter.unusedVariables false
open Q Plain

/-- Each two strangers have together at least as many friends as there are people. -/
def togetherB (n : Nat) (f : Nat → Nat → Bool) : Bool := (List.range n).all fun a => (List.range a).all fun b => f a b || decide (n ≤ cnt (f a) n + cnt (f b) n)
/-- What both sides tell. -/
def together (n : Int) (l : List Pr) : Bool × Bool := if party n l = true then (decide (n ≥ 3) && togetherB n.toNat (adj l), true) else (false, false)

theorem togetherB_iff {n : Nat} {f : Nat → Nat → Bool} : togetherB n f = true ↔ ∀ a b, b < a → a < n → f a b = false → n ≤ cnt (f a) n + cnt (f b) n := by
  unfold togetherB
  simp only [List.all_eq_true, List.mem_range, Bool.or_eq_true, decide_eq_true_eq]
  constructor
  · intro h a b hb ha hf
    rcases h a ha b hb with q | q
    · rw [hf] at q; exact absurd q (by simp)
    · exact q
  · intro h a ha b hb
    by_cases c : f a b = true
    · exact Or.inl c
    · exact Or.inr (h a b hb ha (by simpa using c))

theorem spec_ev (n : Int) (l : List Pr) (h : l.length ≤ 9223372036854775807) : Ev (fun k => spec_EnoughTogether.f k n l) (together n l) := by
  unfold spec_EnoughTogether.f
  refine Ev.bind (paGood_ev n l h) ?_
  refine ev_if (fun b => ?_) (fun b => by unfold together; rw [if_neg b]; exact Ev.now _)
  obtain ⟨m, rfl, hm, hr, hs⟩ := party_right b
  unfold together
  rw [if_pos b, Int.toNat_natCast]
  refine Ev.bind (paNumbers_ev hm hr hs h) ?_
  refine Ev.bind (paOther_ev hm hr h) ?_
  have hz : (numsF m (adj l)).length = m := numsF_length _ _
  have hp : ∀ x ∈ pairsF m (fun a b => !adj l a b), ∃ a b : Nat, a < b ∧ b < m ∧ adj l a b = false ∧ x = ⟨(a : Int), (b : Int)⟩ := by
    intro x hx
    obtain ⟨a, b, h1, h2, h3, h4⟩ := mem_pairsF.1 hx
    exact ⟨a, b, h1, h2, by simpa using h3, h4⟩
  have hall : togetherB m (adj l) = (pairsF m (fun a b => !adj l a b)).all (fun x => decide (m ≤ cnt (adj l x.f0.toNat) m + cnt (adj l x.f1.toNat) m)) := by
    rw [Bool.eq_iff_iff, togetherB_iff, List.all_eq_true]
    constructor
    · intro q x hx
      obtain ⟨a, b, h1, h2, h3, rfl⟩ := hp x hx
      have := q b a h1 h2 (by rw [adj_comm]; exact h3)
      simp only [Int.toNat_natCast, decide_eq_true_eq]
      omega
    · intro q a b hb ha hf
      have := q ⟨(b : Int), (a : Int)⟩ (mem_pairsF.2 ⟨b, a, hb, ha, by rw [adj_comm, hf]; rfl, rfl⟩)
      simp only [Int.toNat_natCast, decide_eq_true_eq] at this
      omega
  have hlen : (pairsF m (fun a b => !adj l a b)).length ≤ 1000 := pairsF_length hm _
  rw [hall]
  show Ev (fun k => spec_EnoughTogether.l0 k (numsF m (adj l)) (pairsF m (fun a b => !adj l a b)) ((pairsF m (fun a b => !adj l a b)).length : Int) 0 (m : Int) l) _
  generalize pairsF m (fun a b => !adj l a b) = z at hp hlen
  have q := ev_up (n := z.length) (loop := fun k i => spec_EnoughTogether.l0 k (numsF m (adj l)) z (z.length : Int) (i : Int) (m : Int) l) (r := fun i => if ((z.drop i).all fun x => decide (m ≤ cnt (adj l x.f0.toNat) m + cnt (adj l x.f1.toNat) m)) = true then (decide ((m : Int) > 2), true) else (false, true))
    (Ev.step (f := fun _ => some (decide ((m : Int) > 2), true)) (fun k => by simp only [spec_EnoughTogether.l0]; rw [if_neg (by omega)]) (by simpa using Ev.now _))
    (fun i hi ih => by
      obtain ⟨a, b, h1, h2, h3, he⟩ := hp _ (List.getElem_mem hi)
      have ca := cnt_le (adj l a) m
      have cb := cnt_le (adj l b) m
      have w : wrap64 (((cnt (adj l a) m : Nat) : Int) + ((cnt (adj l b) m : Nat) : Int)) = ((cnt (adj l a) m : Nat) : Int) + ((cnt (adj l b) m : Nat) : Int) := wrap_id (by omega) (by omega)
      rw [List.drop_eq_getElem_cons hi, List.all_cons, he]
      have e1 : ∀ r : Bool, (decide (m ≤ cnt (adj l (⟨(a : Int), (b : Int)⟩ : Pr).f0.toNat) m + cnt (adj l (⟨(a : Int), (b : Int)⟩ : Pr).f1.toNat) m) && r) = (decide (m ≤ cnt (adj l a) m + cnt (adj l b) m) && r) := fun r => by simp only [Int.toNat_natCast]
      simp only [e1]
      by_cases c : m ≤ cnt (adj l a) m + cnt (adj l b) m
      · refine Ev.step (f := fun k => spec_EnoughTogether.l0 k (numsF m (adj l)) z (z.length : Int) ((i + 1 : Nat) : Int) (m : Int) l) (fun k => ?_) (by simp only [decide_eq_true c, Bool.true_and]; exact ih)
        simp only [spec_EnoughTogether.l0]
        rw [if_pos (by omega), if_pos (by omega), if_pos (by omega), rdP_at hi, he]
        dsimp only
        rw [if_pos (by omega), if_pos (by rw [hz]; omega), if_pos (by omega), if_pos (by rw [hz]; omega), numsF_get (by omega), numsF_get h2, w, if_neg (by omega), succ_cast hi (by omega)]
      · refine Ev.step (f := fun _ => some (false, true)) (fun k => ?_) (by simp only [decide_eq_false c, Bool.false_and]; exact Ev.now _)
        simp only [spec_EnoughTogether.l0]
        rw [if_pos (by omega), if_pos (by omega), if_pos (by omega), rdP_at hi, he]
        dsimp only
        rw [if_pos (by omega), if_pos (by rw [hz]; omega), if_pos (by omega), if_pos (by rw [hz]; omega), numsF_get (by omega), numsF_get h2, w, if_pos (by omega)]) 0 (Nat.zero_le _)
  have e : (if ((z.drop 0).all fun x => decide (m ≤ cnt (adj l x.f0.toNat) m + cnt (adj l x.f1.toNat) m)) = true then (decide ((m : Int) > 2), true) else (false, true)) = (decide ((m : Int) ≥ 3) && z.all fun x => decide (m ≤ cnt (adj l x.f0.toNat) m + cnt (adj l x.f1.toNat) m), true) := by
    rw [List.drop_zero]
    have d : decide ((m : Int) > 2) = decide ((m : Int) ≥ 3) := by apply decide_eq_decide.mpr; omega
    rw [d]
    cases (z.all fun x => decide (m ≤ cnt (adj l x.f0.toNat) m + cnt (adj l x.f1.toNat) m)) <;> simp
  rw [e] at q
  exact q

theorem impl_l0 {m : Nat} (hm : m ≤ 12) (f : Nat → Nat → Bool) : Ev (fun k => impl_EnoughTogether.l0 k (numsF m f) (tabF m f) (m : Int) 0) (togetherB m f, true) := by
  have hz : (numsF m f).length = m := numsF_length _ _
  have q := ev_up (n := m) (loop := fun k a => impl_EnoughTogether.l0 k (numsF m f) (tabF m f) (m : Int) (a : Int)) (r := fun a => (((List.range m).drop a).all (fun a => (List.range a).all fun b => f a b || decide (m ≤ cnt (f a) m + cnt (f b) m)), true))
    (Ev.step (f := fun _ => some (true, true)) (fun k => by simp only [impl_EnoughTogether.l0]; rw [if_neg (by omega)]) (by rw [all_end _ (Nat.le_refl _)]; exact Ev.now _))
    (fun a ha ih => by
      rw [all_step _ ha]
      have q2 := ev_up (n := a) (loop := fun k b => impl_EnoughTogether.l1 k (numsF m f) (tabF m f) (a : Int) (m : Int) (a : Int) (a : Int) (b : Int)) (r := fun b => (((List.range a).drop b).all (fun b => f a b || decide (m ≤ cnt (f a) m + cnt (f b) m)) && ((List.range m).drop (a + 1)).all (fun a => (List.range a).all fun b => f a b || decide (m ≤ cnt (f a) m + cnt (f b) m)), true))
        (Ev.step (f := fun k => impl_EnoughTogether.l0 k (numsF m f) (tabF m f) (m : Int) ((a + 1 : Nat) : Int)) (fun k => by simp only [impl_EnoughTogether.l1]; rw [if_neg (by omega), succ_cast ha (by omega)]) (by rw [all_end _ (Nat.le_refl _), Bool.true_and]; exact ih))
        (fun b hb ih2 => by
          rw [all_step _ hb]
          have hbm : b < m := by omega
          have ca := cnt_le (f a) m
          have cb := cnt_le (f b) m
          have w : wrap64 (((cnt (f a) m : Nat) : Int) + ((cnt (f b) m : Nat) : Int)) = ((cnt (f a) m : Nat) : Int) + ((cnt (f b) m : Nat) : Int) := wrap_id (by omega) (by omega)
          by_cases c : f a b = true
          · refine Ev.step (f := fun k => impl_EnoughTogether.l1 k (numsF m f) (tabF m f) (a : Int) (m : Int) (a : Int) (a : Int) ((b + 1 : Nat) : Int)) (fun k => ?_) (by rw [c, Bool.true_or, Bool.true_and]; exact ih2)
            simp only [impl_EnoughTogether.l1]
            rw [if_pos (by omega), has_eq hm f ha hbm, Option.bind_some, if_pos c, succ_cast hb (by omega)]
          · have c' : f a b = false := by simpa using c
            by_cases c2 : m ≤ cnt (f a) m + cnt (f b) m
            · refine Ev.step (f := fun k => impl_EnoughTogether.l1 k (numsF m f) (tabF m f) (a : Int) (m : Int) (a : Int) (a : Int) ((b + 1 : Nat) : Int)) (fun k => ?_) (by rw [decide_eq_true c2, Bool.or_true, Bool.true_and]; exact ih2)
              simp only [impl_EnoughTogether.l1]
              rw [if_pos (by omega), has_eq hm f ha hbm, Option.bind_some, if_neg c, if_pos (by omega), if_pos (by rw [hz]; omega), if_pos (by omega), if_pos (by rw [hz]; omega), numsF_get ha, numsF_get hbm, w, if_neg (by rw [hz]; omega), succ_cast hb (by omega)]
            · refine Ev.step (f := fun _ => some (false, true)) (fun k => ?_) (by rw [c', decide_eq_false c2]; simpa using Ev.now (false, true))
              simp only [impl_EnoughTogether.l1]
              rw [if_pos (by omega), has_eq hm f ha hbm, Option.bind_some, if_neg c, if_pos (by omega), if_pos (by rw [hz]; omega), if_pos (by omega), if_pos (by rw [hz]; omega), numsF_get ha, numsF_get hbm, w, if_pos (by rw [hz]; omega)]) 0 (Nat.zero_le _)
      refine Ev.step (f := fun k => impl_EnoughTogether.l1 k (numsF m f) (tabF m f) (a : Int) (m : Int) (a : Int) (a : Int) 0) (fun k => ?_) (by simpa using q2)
      simp only [impl_EnoughTogether.l0]
      rw [if_pos (by omega)]) 0 (Nat.zero_le _)
  simpa [togetherB] using q

theorem impl_ev (n : Int) (l : List Pr) (h : l.length ≤ 9223372036854775807) : Ev (fun k => impl_EnoughTogether.f k n l) (together n l) := by
  unfold impl_EnoughTogether.f
  refine Ev.bind (numbersOfFriends_ev n l h) ?_
  by_cases b : party n l = true
  · obtain ⟨m, rfl, hm, hr, hs⟩ := party_right b
    unfold together
    rw [if_pos b, if_pos b, Int.toNat_natCast]
    have hz : (numsF m (adj l)).length = m := numsF_length _ _
    refine ev_if (fun _ => ?_) (fun h => absurd rfl h)
    show Ev (fun k => impl_EnoughTogether.j0 k (numsF m (adj l)) true (decide (((numsF m (adj l)).length : Int) < 3)) (m : Int) l) _
    rw [hz]
    by_cases c : (m : Int) < 3
    · rw [decide_eq_true c, decide_eq_false (by omega), Bool.false_and]
      refine Ev.step (f := fun _ => some (false, true)) (fun k => ?_) (Ev.now _)
      simp only [impl_EnoughTogether.j0]
      rfl
    · rw [decide_eq_false c, decide_eq_true (show (m : Int) ≥ 3 by omega), Bool.true_and]
      refine Ev.step (f := fun k => (impl_Party_table.f k (m : Int) l).bind fun t => impl_EnoughTogether.l0 k (numsF m (adj l)) t (t.length : Int) 0) (fun k => ?_) ?_
      · simp only [impl_EnoughTogether.j0]
        rfl
      · refine Ev.bind (table_ev hm hr h) ?_
        rw [tabF_length]
        exact impl_l0 hm _
  · unfold together
    rw [if_neg b, if_neg b]
    refine ev_if (fun h => absurd h (by simp)) (fun _ => ?_)
    refine Ev.step (f := fun _ => some (false, false)) (fun k => ?_) (Ev.now _)
    simp only [impl_EnoughTogether.j0]
    rfl

theorem FnExactEnoughTogether : laws_FnExactEnoughTogether.Pure := by
  intro n l _ hl _
  refine Ev.rounds (g := fun k => laws_FnExactEnoughTogether.f k n l) ?_
  unfold laws_FnExactEnoughTogether.f
  refine ev_bind0 (szParty_eq n l 1048576 (by omega) (by omega) hl) ?_
  refine ev_if (fun _ => Ev.now _) (fun hb => ?_)
  have hs : l.length ≤ 1048576 := by
    by_cases h : (1048576 : Int) < (l.length : Int)
    · rw [if_pos h] at hb; omega
    · omega
  have hT := toParty_ev n l (by omega)
  have hl2 : (l.map toP).length ≤ 9223372036854775807 := by rw [List.length_map]; exact hl
  have hs2 : (l.map toP).length ≤ 1048576 := by rw [List.length_map]; exact hs
  have hrest : ∀ x42 : Bool, x42 = false → Ev (fun k => laws_FnExactEnoughTogether.j0 k x42 n l n (l.map toP)) true := by
    intro x42 he
    refine Ev.step (f := fun k => (laws_toParty.f k n l).bind fun bt => (laws_eqParty.f k n (l.map toP) bt.1 bt.2).bind fun t => if t = true then some true else some false) (fun k => ?_) ?_
    · simp only [laws_FnExactEnoughTogether.j0]
      rw [if_neg (by rw [he]; simp)]
    · refine Ev.bind hT ?_
      exact Ev.bind (f := fun _ t => if t = true then some true else some false) (eqParty_ev n _ hl2) (ev_some (fun _ => rfl))
  refine Ev.bind hT ?_
  refine Ev.bind (spec_ev n _ hl2) ?_
  refine Ev.bind hT ?_
  refine Ev.bind (impl_ev n _ hl2) ?_
  refine ev_if (fun h => absurd h (by simp)) (fun _ => ?_)
  exact hrest _ (by simp)
end Go.Proofs.Ytipblaifgpnebaa.Pure
