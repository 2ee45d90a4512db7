/- The laws' marks: written into a list and found again. No condition but a length that fits. -/
import Derived.Test.YtipblaifgpnebaaQ0
import Derived.Test.YtipblaifgpnebaaQ54
import Derived.Test.YtipblaifgpnebaaQ55
import Derived.Test.YtipblaifgpnebaaQ56
import Derived.Test.YtipblaifgpnebaaQ68
import Derived.Test.YtipblaifgpnebaaQ69
import Derived.Test.YtipblaifgpnebaaQ70
import Derived.Test.YtipblaifgpnebaaBase
import Derived.Test.YtipblaifgpnebaaInts
import Derived.Test.YtipblaifgpnebaaParty
namespace Go.Proofs.Ytipblaifgpnebaa.Plain
open Go.RowKit Go.Proofs.YtipblaifgpnebaaW.PrintWords Go.Proofs.YtipblaifgpnebaaW.PrintLast
set_option linter.unusedVariables false
open Q

/-- The marks of n pairs from v on. -/
def marksP (v : Int) (n : Nat) : List Pr := (List.range n).map fun i : Nat => ⟨v + 2 * (i : Int), v + 2 * (i : Int) + 1⟩
/-- The marks of n numbers from v on. -/
def marksI (v : Int) (n : Nat) : List Int := (List.range n).map fun i : Nat => v + (i : Int)
theorem marksP_length (v : Int) (n : Nat) : (marksP v n).length = n := by simp [marksP]
theorem marksI_length (v : Int) (n : Nat) : (marksI v n).length = n := by simp [marksI]
theorem marksP_get {v : Int} {n i : Nat} (h : i < (marksP v n).length) : (marksP v n)[i] = ⟨v + 2 * (i : Int), v + 2 * (i : Int) + 1⟩ := by simp [marksP]
theorem marksI_get {v : Int} {n i : Nat} (h : i < (marksI v n).length) : (marksI v n)[i] = v + (i : Int) := by simp [marksI]

theorem marksP_step (v : Int) (l : List Pr) {i : Nat} (hi : i < l.length) (x : Pr) (hx : x = ⟨v + 2 * (i : Int), v + 2 * (i : Int) + 1⟩) : (marksP v i ++ l.drop i).set i x = marksP v (i + 1) ++ l.drop (i + 1) := by
  apply List.ext_getElem
  · simp [marksP_length]; omega
  · intro j h1 h2
    rw [List.getElem_set]
    by_cases e : i = j
    · subst e
      rw [if_pos rfl, List.getElem_append_left (by rw [marksP_length]; omega), marksP_get, hx]
    · rw [if_neg e]
      by_cases c : j < i
      · rw [List.getElem_append_left (by rw [marksP_length]; omega), List.getElem_append_left (by rw [marksP_length]; omega), marksP_get, marksP_get]
      · rw [List.getElem_append_right (by rw [marksP_length]; omega), List.getElem_append_right (by rw [marksP_length]; omega), List.getElem_drop, List.getElem_drop]
        congr 1
        rw [marksP_length, marksP_length]
        omega
theorem marksI_step (v : Int) (l : List Int) {i : Nat} (hi : i < l.length) : (marksI v i ++ l.drop i).set i (v + (i : Int)) = marksI v (i + 1) ++ l.drop (i + 1) := by
  apply List.ext_getElem
  · simp [marksI_length]; omega
  · intro j h1 h2
    rw [List.getElem_set]
    by_cases e : i = j
    · subst e
      rw [if_pos rfl, List.getElem_append_left (by rw [marksI_length]; omega), marksI_get]
    · rw [if_neg e]
      by_cases c : j < i
      · rw [List.getElem_append_left (by rw [marksI_length]; omega), List.getElem_append_left (by rw [marksI_length]; omega), marksI_get, marksI_get]
      · rw [List.getElem_append_right (by rw [marksI_length]; omega), List.getElem_append_right (by rw [marksI_length]; omega), List.getElem_drop, List.getElem_drop]
        congr 1
        rw [marksI_length, marksI_length]
        omega

theorem markPairS_ev (l : List Pr) (v : Int) (h : l.length ≤ 1152921504606846976) (h0 : 0 ≤ v) (h1 : v ≤ 1000) : Ev (fun k => laws_markPairS.f k l v) (v + 2 * (l.length : Int), marksP v l.length) := by
  have q := ev_up (n := l.length) (loop := fun k i => laws_markPairS.l0 k (marksP v i ++ l.drop i) (v + 2 * (i : Int)) (i : Int)) (r := fun _ => (v + 2 * (l.length : Int), marksP v l.length))
    (by
      refine Ev.step (f := fun _ => some (v + 2 * (l.length : Int), marksP v l.length)) (fun k => ?_) (Ev.now _)
      simp only [laws_markPairS.l0]
      rw [List.drop_length, List.append_nil, if_neg (by rw [marksP_length]; omega)])
    (fun i hi ih => by
      have hlen : (marksP v i ++ l.drop i).length = l.length := by rw [List.length_append, marksP_length, List.length_drop]; omega
      have w1 : wrap64 (v + 2 * (i : Int) + 1) = v + 2 * (i : Int) + 1 := wrap_id (by omega) (by omega)
      have w2 : wrap64 (v + 2 * (i : Int) + 1 + 1) = v + 2 * ((i + 1 : Nat) : Int) := by rw [wrap_id (by omega) (by omega)]; omega
      refine Ev.step (f := fun k => laws_markPairS.l0 k (marksP v (i + 1) ++ l.drop (i + 1)) (v + 2 * ((i + 1 : Nat) : Int)) ((i + 1 : Nat) : Int)) (fun k => ?_) ih
      simp only [laws_markPairS.l0]
      rw [if_pos (by rw [hlen]; omega), if_pos (by omega), Option.bind_some, w1, w2, succ_cast hi (by omega), Int.toNat_natCast, List.set_set]
      rw [marksP_step v l hi _ (by rw [rdP_at (by rw [List.length_set, hlen]; exact hi), List.getElem_set_self])]) 0 (Nat.zero_le _)
  have e : marksP v 0 ++ l.drop 0 = l := by simp [marksP]
  rw [e] at q
  simpa [laws_markPairS.f] using q

theorem heldPairS_ev (n : Nat) (v : Int) (h : n ≤ 1152921504606846976) (h0 : 0 ≤ v) (h1 : v ≤ 1000) : Ev (fun k => laws_heldPairS.f k (marksP v n) v) (v + 2 * (n : Int)) := by
  have hl := marksP_length v n
  have q := ev_up (n := n) (loop := fun k i => laws_heldPairS.l0 k (marksP v n) (v + 2 * (i : Int)) (i : Int)) (r := fun _ => v + 2 * (n : Int))
    (Ev.step (f := fun _ => some (v + 2 * (n : Int))) (fun k => by simp only [laws_heldPairS.l0]; rw [if_neg (by rw [hl]; omega)]) (Ev.now _))
    (fun i hi ih => by
      have w1 : wrap64 (v + 2 * (i : Int) + 1) = v + 2 * (i : Int) + 1 := wrap_id (by omega) (by omega)
      have w2 : wrap64 (v + 2 * (i : Int) + 1 + 1) = v + 2 * ((i + 1 : Nat) : Int) := by rw [wrap_id (by omega) (by omega)]; omega
      refine Ev.step (f := fun k => laws_heldPairS.l0 k (marksP v n) (v + 2 * ((i + 1 : Nat) : Int)) ((i + 1 : Nat) : Int)) (fun k => ?_) ih
      simp only [laws_heldPairS.l0]
      rw [if_pos (by rw [hl]; omega), if_pos (by omega), rdP_at (by rw [hl]; exact hi), marksP_get, if_pos rfl, w1, if_pos rfl, w2, succ_cast hi (by omega)]) 0 (Nat.zero_le _)
  simpa [laws_heldPairS.f] using q

theorem markIntS_ev (l : List Int) (v : Int) (h : l.length ≤ 1152921504606846976) (h0 : 0 ≤ v) (h1 : v ≤ 1000) : Ev (fun k => laws_markIntS.f k l v) (v + (l.length : Int), marksI v l.length) := by
  have q := ev_up (n := l.length) (loop := fun k i => laws_markIntS.l0 k (marksI v i ++ l.drop i) (v + (i : Int)) (i : Int)) (r := fun _ => (v + (l.length : Int), marksI v l.length))
    (by
      refine Ev.step (f := fun _ => some (v + (l.length : Int), marksI v l.length)) (fun k => ?_) (Ev.now _)
      simp only [laws_markIntS.l0]
      rw [List.drop_length, List.append_nil, if_neg (by rw [marksI_length]; omega)])
    (fun i hi ih => by
      have hlen : (marksI v i ++ l.drop i).length = l.length := by rw [List.length_append, marksI_length, List.length_drop]; omega
      have w1 : wrap64 (v + (i : Int) + 1) = v + ((i + 1 : Nat) : Int) := by rw [wrap_id (by omega) (by omega)]; omega
      refine Ev.step (f := fun k => laws_markIntS.l0 k (marksI v (i + 1) ++ l.drop (i + 1)) (v + ((i + 1 : Nat) : Int)) ((i + 1 : Nat) : Int)) (fun k => ?_) ih
      simp only [laws_markIntS.l0]
      rw [if_pos (by rw [hlen]; omega), if_pos (by omega), w1, succ_cast hi (by omega), Int.toNat_natCast, marksI_step v l hi]) 0 (Nat.zero_le _)
  have e : marksI v 0 ++ l.drop 0 = l := by simp [marksI]
  rw [e] at q
  simpa [laws_markIntS.f] using q

theorem heldIntS_ev (n : Nat) (v : Int) (h : n ≤ 1152921504606846976) (h0 : 0 ≤ v) (h1 : v ≤ 1000) : Ev (fun k => laws_heldIntS.f k (marksI v n) v) (v + (n : Int)) := by
  have hl := marksI_length v n
  have q := ev_up (n := n) (loop := fun k i => laws_heldIntS.l0 k (marksI v n) (v + (i : Int)) (i : Int)) (r := fun _ => v + (n : Int))
    (Ev.step (f := fun _ => some (v + (n : Int))) (fun k => by simp only [laws_heldIntS.l0]; rw [if_neg (by rw [hl]; omega)]) (Ev.now _))
    (fun i hi ih => by
      have w1 : wrap64 (v + (i : Int) + 1) = v + ((i + 1 : Nat) : Int) := by rw [wrap_id (by omega) (by omega)]; omega
      refine Ev.step (f := fun k => laws_heldIntS.l0 k (marksI v n) (v + ((i + 1 : Nat) : Int)) ((i + 1 : Nat) : Int)) (fun k => ?_) ih
      simp only [laws_heldIntS.l0]
      rw [if_pos (by rw [hl]; omega), if_pos (by omega), rd_at (by rw [hl]; exact hi), marksI_get, if_pos rfl, w1, succ_cast hi (by omega)]) 0 (Nat.zero_le _)
  simpa [laws_heldIntS.f] using q

theorem markParty_ev (n : Int) (l : List Pr) (h : l.length ≤ 1152921504606846976) : Ev (fun k => laws_markParty.f k n l 1) (1 + 2 * (l.length : Int), marksP 1 l.length) := by
  unfold laws_markParty.f
  exact Ev.bind (f := fun _ bt => some (bt.1, bt.2)) (markPairS_ev l 1 h (by omega) (by omega)) (Ev.now _)

theorem heldParty_ev (n : Int) (m : Nat) (h : m ≤ 1152921504606846976) : Ev (fun k => laws_heldParty.f k n (marksP 1 m) 1) (1 + 2 * (m : Int)) := by
  unfold laws_heldParty.f
  refine Ev.bind (heldPairS_ev m 1 h (by omega) (by omega)) ?_
  exact ev_if (fun q => by omega) (fun _ => Ev.now _)
end Go.Proofs.Ytipblaifgpnebaa.Plain
