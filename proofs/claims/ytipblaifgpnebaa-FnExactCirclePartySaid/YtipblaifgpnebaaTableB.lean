/- The reference's table of a party: for each person, of each person, whether they are friends. No condition but lengths that fit. -/
import Derived.Test.YtipblaifgpnebaaQ0
import Derived.Test.YtipblaifgpnebaaQ32
import Derived.Test.YtipblaifgpnebaaBase
import Derived.Test.YtipblaifgpnebaaInts
import Derived.Test.YtipblaifgpnebaaParty
import Derived.Test.YtipblaifgpnebaaGraph
import Derived.Test.YtipblaifgpnebaaTable
namespace Go.Proofs.Ytipblaifgpnebaa.Plain
open Go.RowKit Go.Proofs.YtipblaifgpnebaaW.PrintWords Go.Proofs.YtipblaifgpnebaaW.PrintLast
set_option linter.unusedVariables false
open Q

theorem rdB_at {l : List (List Bool)} {i : Nat} (h : i < l.length) : rd_L5 l (i : Int) = l[i] := by
  simp [rd_L5, List.getD, h]
theorem rdOfB_at {l : List Bool} {i : Nat} (h : i < l.length) : rdOf false l (i : Int) = l[i] := by
  simp [rdOf, List.getD, h]

/-- The table of a relation of n people, as bools. -/
def rowB (n : Nat) (f : Nat → Bool) : List Bool := (List.range n).map f
def tabB (n : Nat) (f : Nat → Nat → Bool) : List (List Bool) := (List.range n).map fun a => rowB n (f a)
theorem rowB_length (n : Nat) (f : Nat → Bool) : (rowB n f).length = n := by simp [rowB]
theorem rowB_get {n : Nat} {f : Nat → Bool} {a : Nat} (h : a < (rowB n f).length) : (rowB n f)[a] = f a := by simp [rowB]
theorem tabB_length (n : Nat) (f : Nat → Nat → Bool) : (tabB n f).length = n := by simp [tabB]
theorem tabB_getElem {n : Nat} {f : Nat → Nat → Bool} {a : Nat} (h : a < (tabB n f).length) : (tabB n f)[a] = rowB n (f a) := by simp [tabB]
theorem tabB_get {n : Nat} {f : Nat → Nat → Bool} {a : Nat} (h : a < n) : rd_L5 (tabB n f) (a : Int) = rowB n (f a) := by
  rw [rdB_at (by rw [tabB_length]; exact h), tabB_getElem]
theorem rowB_congr {n : Nat} {f g : Nat → Bool} (h : ∀ b, b < n → f b = g b) : rowB n f = rowB n g := by
  unfold rowB
  apply List.map_congr_left
  intro b hb
  exact h b (by simpa using hb)
theorem tabB_congr {n : Nat} {f g : Nat → Nat → Bool} (h : ∀ a b, a < n → b < n → f a b = g a b) : tabB n f = tabB n g := by
  unfold tabB
  apply List.map_congr_left
  intro a ha
  exact rowB_congr (fun b hb => h a b (by simpa using ha) hb)
theorem rowB_set {n : Nat} {f : Nat → Bool} {b : Nat} (v : Bool) : (rowB n f).set b v = rowB n (fun c => if c = b then v else f c) := by
  apply List.ext_getElem
  · simp [rowB_length]
  · intro i h1 h2
    rw [List.getElem_set, rowB_get]
    by_cases e : b = i
    · subst e; rw [if_pos rfl, rowB_get, if_pos rfl]
    · rw [if_neg e, rowB_get, if_neg (fun q => e q.symm)]

/-- Two cells set, the one of both people's. -/
def setP (f : Nat → Nat → Bool) (a b : Nat) (v : Bool) : Nat → Nat → Bool := fun c d => if (c = a ∧ d = b) ∨ (c = b ∧ d = a) then v else f c d

theorem tabB_put {n : Nat} (f : Nat → Nat → Bool) {a b : Nat} (ha : a < n) (hb : b < n) (hab : a ≠ b) (v : Bool) :
    ((tabB n f).set a ((rd_L5 (tabB n f) (a : Int)).set b v)).set b ((rd_L5 ((tabB n f).set a ((rd_L5 (tabB n f) (a : Int)).set b v)) (b : Int)).set a v) = tabB n (setP f a b v) := by
  have e2 : rd_L5 ((tabB n f).set a ((rd_L5 (tabB n f) (a : Int)).set b v)) (b : Int) = rowB n (f b) := by
    rw [rdB_at (by rw [List.length_set, tabB_length]; exact hb), List.getElem_set_ne hab, tabB_getElem]
  rw [e2, tabB_get ha, rowB_set, rowB_set]
  apply List.ext_getElem
  · simp [tabB_length]
  · intro i h1 h2
    rw [tabB_length] at h2
    rw [List.getElem_set, List.getElem_set]
    by_cases i1 : b = i
    · subst i1
      rw [if_pos rfl, tabB_getElem]
      apply rowB_congr
      intro c _
      unfold setP
      simp [show ¬ (b = a) from fun q => hab q.symm]
    · rw [if_neg i1]
      by_cases i2 : a = i
      · subst i2
        rw [if_pos rfl, tabB_getElem]
        apply rowB_congr
        intro c _
        unfold setP
        simp [hab]
      · rw [if_neg i2, tabB_getElem, tabB_getElem]
        apply rowB_congr
        intro c _
        unfold setP
        simp [show ¬ (i = a) from fun q => i2 q.symm, show ¬ (i = b) from fun q => i1 q.symm]

theorem setP_true (f : Nat → Nat → Bool) (a b c d : Nat) : setP f a b true c d = withP f a b c d := by
  unfold setP withP
  by_cases h : (c = a ∧ d = b) ∨ (c = b ∧ d = a)
  · rw [if_pos h]
    rcases h with ⟨rfl, rfl⟩ | ⟨rfl, rfl⟩ <;> simp
  · rw [if_neg h]
    have : ((decide (c = a) && decide (d = b)) || (decide (c = b) && decide (d = a))) = false := by
      rw [Bool.eq_false_iff]
      intro q
      exact h (by simpa using q)
    rw [this, Bool.or_false]

theorem adj_next {n : Nat} {l : List Pr} (hr : Right n l) {i : Nat} (hi : i < l.length) (c d : Nat) : withP (adj (l.take i)) l[i].f0.toNat l[i].f1.toNat c d = adj (l.take (i + 1)) c d := by
  have r := hr _ (List.getElem_mem hi)
  rw [List.take_succ_eq_append_getElem hi, adj_snoc]
  unfold withP
  congr 1
  have k1 : decide (c = l[i].f0.toNat) = decide (l[i].f0 = (c : Int)) := by apply decide_eq_decide.mpr; omega
  have k2 : decide (d = l[i].f1.toNat) = decide (l[i].f1 = (d : Int)) := by apply decide_eq_decide.mpr; omega
  have k3 : decide (c = l[i].f1.toNat) = decide (l[i].f1 = (c : Int)) := by apply decide_eq_decide.mpr; omega
  have k4 : decide (d = l[i].f0.toNat) = decide (l[i].f0 = (d : Int)) := by apply decide_eq_decide.mpr; omega
  rw [k1, k2, k3, k4, Bool.and_comm (decide (l[i].f1 = (c : Int)))]

theorem paTable_ev {n : Nat} {l : List Pr} (hn : n ≤ 12) (hr : Right n l) (h : l.length ≤ 9223372036854775807) : Ev (fun k => spec_paTable.f k (n : Int) l) (tabB n (adj l)) := by
  have q1 := ev_up (n := l.length) (loop := fun k i => spec_paTable.l1 k (tabB n (adj (l.take i))) l (l.length : Int) (i : Int)) (r := fun _ => tabB n (adj l))
    (Ev.step (f := fun _ => some (tabB n (adj l))) (fun k => by simp [spec_paTable.l1]) (Ev.now _))
    (fun i hi ih => by
      have r := hr _ (List.getElem_mem hi)
      have ea : ((l[i].f0.toNat : Nat) : Int) = l[i].f0 := by omega
      have eb : ((l[i].f1.toNat : Nat) : Int) = l[i].f1 := by omega
      have hput := tabB_put (n := n) (adj (l.take i)) (a := l[i].f0.toNat) (b := l[i].f1.toNat) (by omega) (by omega) (by omega) true
      have hnext : tabB n (setP (adj (l.take i)) l[i].f0.toNat l[i].f1.toNat true) = tabB n (adj (l.take (i + 1))) :=
        tabB_congr (fun c d _ _ => by rw [setP_true, adj_next hr hi])
      rw [hnext] at hput
      have la : (rd_L5 (tabB n (adj (l.take i))) l[i].f0).length = n := by
        rw [← ea, tabB_get (by omega), rowB_length]
      have lb : (rd_L5 ((tabB n (adj (l.take i))).set l[i].f0.toNat ((rd_L5 (tabB n (adj (l.take i))) l[i].f0).set l[i].f1.toNat true)) l[i].f1).length = n := by
        rw [← eb, rdB_at (by rw [List.length_set, tabB_length]; omega), List.getElem_set_ne (by omega), tabB_getElem, rowB_length]
      rw [ea, eb] at hput
      refine Ev.step (f := fun k => spec_paTable.l1 k (tabB n (adj (l.take (i + 1)))) l (l.length : Int) ((i + 1 : Nat) : Int)) (fun k => ?_) ih
      simp only [spec_paTable.l1]
      rw [if_pos (by omega), if_pos (by omega), if_pos (by omega), rdP_at hi, if_pos (by omega), if_pos (by rw [tabB_length]; omega), if_pos (by omega), if_pos (by rw [la]; omega), Option.bind_some, if_pos (by rw [tabB_length]; omega), if_pos (by rw [lb]; omega), hput, succ_cast hi h]) 0 (Nat.zero_le _)
  have e0 : tabB n (adj (l.take 0)) = List.replicate n (List.replicate n false) := by
    unfold tabB
    rw [List.eq_replicate_iff]
    refine ⟨by simp, fun b hb => ?_⟩
    obtain ⟨a, _, rfl⟩ := List.mem_map.1 hb
    unfold rowB
    rw [List.eq_replicate_iff]
    refine ⟨by simp, fun c hc => ?_⟩
    obtain ⟨d, _, rfl⟩ := List.mem_map.1 hc
    rw [List.take_zero, adj_nil]
  rw [e0] at q1
  have q0 := ev_up (n := n) (loop := fun k i => spec_paTable.l0 k (List.replicate i (List.replicate n false)) (i : Int) (n : Int) l) (r := fun _ => tabB n (adj l))
    (Ev.step (f := fun k => spec_paTable.l1 k (List.replicate n (List.replicate n false)) l (l.length : Int) 0) (fun k => by
      simp only [spec_paTable.l0]
      rw [if_neg (by omega)]) q1)
    (fun i hi ih => by
      refine Ev.step (f := fun k => spec_paTable.l0 k (List.replicate (i + 1) (List.replicate n false)) ((i + 1 : Nat) : Int) (n : Int) l) (fun k => ?_) ih
      simp only [spec_paTable.l0]
      rw [if_pos (by omega), if_pos (by omega), if_pos (by omega), if_pos (by simp; omega), Int.toNat_natCast, succ_cast hi (by omega), ← List.replicate_succ']) 0 (Nat.zero_le _)
  exact q0
end Go.Proofs.Ytipblaifgpnebaa.Plain
