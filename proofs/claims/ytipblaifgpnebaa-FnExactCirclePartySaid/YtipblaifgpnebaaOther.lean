/- The reference's other party: friends are who were none. No condition but that there are at most twelve people. -/
import Derived.Test.YtipblaifgpnebaaQ0
import Derived.Test.YtipblaifgpnebaaQ59
import Derived.Test.YtipblaifgpnebaaQ77
import Derived.Test.YtipblaifgpnebaaBase
import Derived.Test.YtipblaifgpnebaaInts
import Derived.Test.YtipblaifgpnebaaParty
import Derived.Test.YtipblaifgpnebaaGraph
import Derived.Test.YtipblaifgpnebaaTable
import Derived.Test.YtipblaifgpnebaaTableB
import Derived.Test.YtipblaifgpnebaaPartyOf
namespace Go.Proofs.Ytipblaifgpnebaa.Plain
open Go.RowKit Go.Proofs.YtipblaifgpnebaaW.PrintWords Go.Proofs.YtipblaifgpnebaaW.PrintLast
set_option linter.unusedVariables false
open Q

theorem tabB_set {n : Nat} (g : Nat → Nat → Bool) {a b : Nat} (ha : a < n) (hb : b < n) (v : Bool) :
    (tabB n g).set a ((rd_L5 (tabB n g) (a : Int)).set b v) = tabB n (fun c d => if c = a ∧ d = b then v else g c d) := by
  rw [tabB_get ha, rowB_set]
  apply List.ext_getElem
  · simp [tabB_length]
  · intro i h1 h2
    rw [tabB_length] at h2
    rw [List.getElem_set]
    by_cases e : a = i
    · subst e
      rw [if_pos rfl, tabB_getElem]
      apply rowB_congr
      intro c _
      simp
    · rw [if_neg e, tabB_getElem, tabB_getElem]
      apply rowB_congr
      intro c _
      rw [if_neg (fun q => e q.1.symm)]

theorem mem_pairsF {n : Nat} {f : Nat → Nat → Bool} {x : Pr} : x ∈ pairsF n f ↔ ∃ a b : Nat, a < b ∧ b < n ∧ f a b = true ∧ x = ⟨(a : Int), (b : Int)⟩ := by
  unfold pairsF restFrom
  rw [List.drop_zero, List.mem_flatMap]
  constructor
  · rintro ⟨a, ha, h⟩
    unfold rowFrom at h
    rw [List.mem_filterMap] at h
    obtain ⟨b, hb, h⟩ := h
    have hb2 : a + 1 ≤ b ∧ b < n := by
      obtain ⟨i, hi, rfl⟩ := List.mem_iff_getElem.1 hb
      rw [List.length_drop, List.length_range] at hi
      rw [List.getElem_drop, List.getElem_range]
      omega
    by_cases c : f a b = true
    · rw [if_pos c] at h
      exact ⟨a, b, by omega, hb2.2, c, (Option.some.inj h).symm⟩
    · rw [if_neg c] at h
      exact absurd h (by simp)
  · rintro ⟨a, b, hab, hb, h, rfl⟩
    refine ⟨a, by simp; omega, ?_⟩
    unfold rowFrom
    rw [List.mem_filterMap]
    refine ⟨b, ?_, by rw [if_pos h]⟩
    rw [List.mem_iff_getElem]
    refine ⟨b - (a + 1), by rw [List.length_drop, List.length_range]; omega, ?_⟩
    rw [List.getElem_drop, List.getElem_range]
    omega

theorem rowFrom_length (n : Nat) (f : Nat → Bool) (a b : Nat) : (rowFrom n f a b).length ≤ n := by
  unfold rowFrom
  refine Nat.le_trans (List.length_filterMap_le _ _) ?_
  rw [List.length_drop, List.length_range]; omega
theorem pairsF_length {n : Nat} (hn : n ≤ 12) (f : Nat → Nat → Bool) : (pairsF n f).length ≤ 1000 := by
  have q : ∀ d a, n - a = d → a ≤ n → (restFrom n f a).length ≤ 12 * d := by
    intro d
    induction d with
    | zero =>
      intro a h1 h2
      have e : a = n := by omega
      subst e
      rw [restFrom_end]; simp
    | succ d ih =>
      intro a h1 h2
      rw [restFrom_step (by omega), List.length_append]
      have h3 := ih (a + 1) (by omega) (by omega)
      have h4 := rowFrom_length n (f a) a (a + 1)
      omega
  have := q n 0 rfl (Nat.zero_le _)
  unfold pairsF
  omega

/-- The cells that stand before a place are turned round. -/
def turnB (f : Nat → Nat → Bool) (i j : Nat) : Nat → Nat → Bool := fun a b => if a < i ∨ (a = i ∧ b < j) then !f a b else f a b

theorem paOther_ev {n : Nat} {l : List Pr} (hn : n ≤ 12) (hr : Right n l) (h : l.length ≤ 9223372036854775807) : Ev (fun k => spec_paOther.f k (n : Int) l) ((n : Int), pairsF n (fun a b => !adj l a b)) := by
  unfold spec_paOther.f
  refine Ev.bind (paTable_ev hn hr h) ?_
  rw [tabB_length]
  generalize adj l = f
  have q := ev_up (n := n) (loop := fun k i => spec_paOther.l0 k (tabB n (turnB f i 0)) (n : Int) (i : Int)) (r := fun _ => ((n : Int), pairsF n (fun a b => !f a b)))
    (by
      refine Ev.step (f := fun k => (spec_paOf.f k (tabB n (turnB f n 0))).bind fun bt => some (bt.1, bt.2)) (fun k => ?_) ?_
      · simp only [spec_paOther.l0]
        rw [if_neg (by omega)]
      · refine Ev.bind (paOf_ev hn _) ?_
        have e : tabB n (turnB f n 0) = tabB n (fun a b => !f a b) := tabB_congr (fun a b ha hb => by unfold turnB; rw [if_pos (Or.inl ha)])
        have e2 : pairsF n (turnB f n 0) = pairsF n (fun a b => !f a b) := by
          unfold pairsF restFrom
          rw [List.drop_zero]
          have : ∀ a ∈ List.range n, rowFrom n (turnB f n 0 a) a (a + 1) = rowFrom n (fun b => !f a b) a (a + 1) := by
            intro a ha
            have ha2 : a < n := by simpa using ha
            unfold rowFrom turnB
            simp only [if_pos (Or.inl ha2 : a < n ∨ _)]
          rw [List.flatMap_def, List.flatMap_def, List.map_congr_left this]
        show Ev (fun _ => some ((n : Int), pairsF n (turnB f n 0))) _
        rw [e2]
        exact Ev.now _)
    (fun i hi ih => by
      have q2 := ev_up (n := n) (loop := fun k j => spec_paOther.l1 k (tabB n (turnB f i j)) (i : Int) (n : Int) (i : Int) (n : Int) (j : Int)) (r := fun _ => ((n : Int), pairsF n (fun a b => !f a b)))
        (by
          have e : tabB n (turnB f i n) = tabB n (turnB f (i + 1) 0) := tabB_congr (fun a b ha hb => by
            unfold turnB
            have : (a < i ∨ a = i ∧ b < n) ↔ (a < i + 1 ∨ a = i + 1 ∧ b < 0) := by omega
            simp only [this])
          refine Ev.step (f := fun k => spec_paOther.l0 k (tabB n (turnB f (i + 1) 0)) (n : Int) ((i + 1 : Nat) : Int)) (fun k => ?_) ih
          simp only [spec_paOther.l1]
          rw [if_neg (by omega), e, succ_cast hi (by omega)])
        (fun j hj ih2 => by
          have lr : (rd_L5 (tabB n (turnB f i j)) (i : Int)).length = n := by rw [tabB_get hi, rowB_length]
          have v : rdOf false (rd_L5 (tabB n (turnB f i j)) (i : Int)) (j : Int) = f i j := by
            rw [rdOfB_at (by rw [lr]; exact hj)]
            simp only [tabB_get hi, rowB_get]
            unfold turnB
            rw [if_neg (by omega)]
          have e : (tabB n (turnB f i j)).set i ((rd_L5 (tabB n (turnB f i j)) (i : Int)).set j (!f i j)) = tabB n (turnB f i (j + 1)) := by
            rw [tabB_set _ hi hj]
            apply tabB_congr
            intro c d _ _
            unfold turnB
            by_cases p : c = i ∧ d = j
            · obtain ⟨rfl, rfl⟩ := p
              rw [if_pos ⟨rfl, rfl⟩, if_pos (by omega)]
            · rw [if_neg p]
              have : (c < i ∨ c = i ∧ d < j) ↔ (c < i ∨ c = i ∧ d < j + 1) := by omega
              simp only [this]
          refine Ev.step (f := fun k => spec_paOther.l1 k (tabB n (turnB f i (j + 1))) (i : Int) (n : Int) (i : Int) (n : Int) ((j + 1 : Nat) : Int)) (fun k => ?_) ih2
          simp only [spec_paOther.l1]
          rw [if_pos (by omega), if_pos (by omega), if_pos (by rw [tabB_length]; omega), if_pos (by omega), if_pos (by rw [lr]; omega), v, Int.toNat_natCast, Int.toNat_natCast, e, succ_cast hj (by omega)]) 0 (Nat.zero_le _)
      refine Ev.step (f := fun k => spec_paOther.l1 k (tabB n (turnB f i 0)) (i : Int) (n : Int) (i : Int) (n : Int) 0) (fun k => ?_) (by simpa using q2)
      simp only [spec_paOther.l0]
      rw [if_pos (by omega), tabB_length]) 0 (Nat.zero_le _)
  have e0 : turnB f 0 0 = f := by
    funext a b
    unfold turnB
    rw [if_neg (by omega)]
  rw [e0] at q
  exact q
end Go.Proofs.Ytipblaifgpnebaa.Plain
