/- The reference's test of a party. No condition but a length that fits. -/
import Derived.Test.YtipblaifgpnebaaQ0
import Derived.Test.YtipblaifgpnebaaQ4
import Derived.Test.YtipblaifgpnebaaQ6
import Derived.Test.YtipblaifgpnebaaBase
import Derived.Test.YtipblaifgpnebaaInts
import Derived.Test.YtipblaifgpnebaaParty
import Derived.Test.YtipblaifgpnebaaGraph
namespace Go.Proofs.Ytipblaifgpnebaa.Plain
open Go.RowKit Go.Proofs.YtipblaifgpnebaaW.PrintWords Go.Proofs.YtipblaifgpnebaaW.PrintLast
set_option linter.unusedVariables false
open Q

/-- All pairs of n people. -/
def pairsOf (n : Nat) : List (Nat × Nat) := (List.range n).flatMap fun a => ((List.range n).filter fun b => decide (a < b)).map fun b => (a, b)

theorem pairsOf_length : ∀ n : Fin 13, (((pairsOf n.val).length : Nat) : Int) = (n.val : Int) * ((n.val : Int) - 1) / 2 := by decide +kernel

theorem mem_pairsOf {n a b : Nat} (h : a < b) (hb : b < n) : (a, b) ∈ pairsOf n := by
  unfold pairsOf
  rw [List.mem_flatMap]
  exact ⟨a, List.mem_range.mpr (by omega), List.mem_map.mpr ⟨b, List.mem_filter.mpr ⟨List.mem_range.mpr hb, by simpa using h⟩, rfl⟩⟩

/-- There are no more pairs in a party than pairs of its people. -/
theorem party_len {n : Nat} {l : List Pr} (hn : n ≤ 12) (hr : Right n l) (hs : ∀ i j, (hj : j < l.length) → (hij : i < j) → lessB l[i] l[j] = true) : (l.length : Int) ≤ (n : Int) * ((n : Int) - 1) / 2 := by
  have hnd : (l.map fun x => (x.f0.toNat, x.f1.toNat)).Nodup := by
    rw [List.nodup_iff_pairwise_ne, List.pairwise_iff_getElem]
    intro i j hi hj hij e
    simp only [List.length_map] at hi hj
    simp only [List.getElem_map, Prod.mk.injEq] at e
    have s := hs i j hj hij
    have r1 := hr _ (List.getElem_mem hi)
    have r2 := hr _ (List.getElem_mem hj)
    unfold lessB at s
    simp only [Bool.or_eq_true, Bool.and_eq_true, decide_eq_true_eq] at s
    omega
  have hsub : (l.map fun x => (x.f0.toNat, x.f1.toNat)) ⊆ pairsOf n := by
    intro p hp
    obtain ⟨x, hx, rfl⟩ := List.mem_map.1 hp
    have := hr x hx
    exact mem_pairsOf (by omega) (by omega)
  have h1 := List.Nodup.length_le_of_subset hnd hsub
  rw [List.length_map] at h1
  have h2 := pairsOf_length ⟨n, by omega⟩
  simp only [] at h2
  omega

theorem bound_eq {n : Int} (h0 : 0 ≤ n) (h1 : n ≤ 12) : wrap64 (Int.tdiv (wrap64 (n * (wrap64 (n - 1)))) 2) = n * (n - 1) / 2 := by
  have : n = 0 ∨ n = 1 ∨ n = 2 ∨ n = 3 ∨ n = 4 ∨ n = 5 ∨ n = 6 ∨ n = 7 ∨ n = 8 ∨ n = 9 ∨ n = 10 ∨ n = 11 ∨ n = 12 := by omega
  rcases this with rfl | rfl | rfl | rfl | rfl | rfl | rfl | rfl | rfl | rfl | rfl | rfl | rfl <;> decide +kernel

theorem paPeople_eq (n : Int) : spec_paPeople.f n = some (decide (0 ≤ n) && decide (n ≤ 12)) := by
  unfold spec_paPeople.f
  rw [l1In_eq]; rfl

theorem paGood_l0 (n : Int) (l : List Pr) (h0 : 0 ≤ n) (h1 : n ≤ 12) (h : l.length ≤ 9223372036854775807) : Ev (fun k => spec_paGood.l0 k l (l.length : Int) 0 n l) ((List.range l.length).all (okAt n l)) := by
  have q := ev_up (n := l.length) (loop := fun k i => spec_paGood.l0 k l (l.length : Int) (i : Int) n l) (r := fun i => ((List.range l.length).drop i).all (okAt n l))
    (Ev.step (f := fun _ => some true) (fun k => by simp only [spec_paGood.l0]; rw [if_neg (by omega)]) (by rw [all_end _ (Nat.le_refl _)]; exact Ev.now _))
    (fun i hi ih => by
      rw [all_step (okAt n l) hi]
      have e0 : okAt n l i = (pairOk n l[i] && (decide (i = 0) || lessB (rdP l ((i : Int) - 1)) l[i])) := by
        unfold okAt rdP; rw [rdP_at hi]
      have wn : wrap64 (n - 1) = n - 1 := wrap_id (by omega) (by omega)
      by_cases a1 : 0 ≤ l[i].f0 ∧ l[i].f0 ≤ n - 1
      · have w1 : wrap64 (l[i].f0 + 1) = l[i].f0 + 1 := wrap_id (by omega) (by omega)
        have b1 : (decide (0 ≤ l[i].f0) && decide (l[i].f0 ≤ n - 1)) = true := by simpa using a1
        by_cases a2 : l[i].f0 + 1 ≤ l[i].f1 ∧ l[i].f1 ≤ n - 1
        · have b2 : (decide (l[i].f0 + 1 ≤ l[i].f1) && decide (l[i].f1 ≤ n - 1)) = true := by simpa using a2
          have ep : pairOk n l[i] = true := by simp [pairOk]; omega
          by_cases a4 : i = 0
          · have e : okAt n l i = true := by rw [e0, ep, decide_eq_true a4]; simp
            rw [e]
            refine Ev.step (f := fun k => spec_paGood.l0 k l (l.length : Int) ((i + 1 : Nat) : Int) n l) (fun k => ?_) (by simpa using ih)
            simp only [spec_paGood.l0]
            rw [if_pos (by omega), if_pos (by omega), if_pos (by omega), rdP_at hi, wn, l1In_eq, b1, Option.bind_some, if_pos rfl, w1, l1In_eq, b2, Option.bind_some, if_pos rfl, if_neg (by omega), succ_cast hi h]
          · have ew : wrap64 ((i : Int) - 1) = ((i - 1 : Nat) : Int) := pred_cast (by omega) (by omega)
            have ew2 : ((i : Int) - 1) = ((i - 1 : Nat) : Int) := by omega
            have e : okAt n l i = lessB l[i-1] l[i] := by
              rw [e0, ep, decide_eq_false a4, ew2]
              unfold rdP
              rw [rdP_at (by omega)]; simp
            rw [e]
            refine Ev.step (f := fun k => if lessB l[i-1] l[i] = true then spec_paGood.l0 k l (l.length : Int) ((i + 1 : Nat) : Int) n l else some false) (fun k => ?_) ?_
            · simp only [spec_paGood.l0]
              rw [if_pos (by omega), if_pos (by omega), if_pos (by omega), rdP_at hi, wn, l1In_eq, b1, Option.bind_some, if_pos rfl, w1, l1In_eq, b2, Option.bind_some, if_pos rfl, if_pos (by omega), ew, if_pos (by omega), if_pos (by omega), rdP_at (by omega : i - 1 < l.length), paLess_eq, Option.bind_some, succ_cast hi h]
            · cases hb : lessB l[i-1] l[i] with
              | true => exact ev_if (fun _ => by simpa using ih) (fun h => absurd rfl h)
              | false => exact ev_some (fun _ => by simp)
        · have b2 : (decide (l[i].f0 + 1 ≤ l[i].f1) && decide (l[i].f1 ≤ n - 1)) = false := by
            rw [Bool.eq_false_iff]; intro q; exact a2 (by simpa using q)
          have e : okAt n l i = false := by rw [e0]; simp [pairOk]; omega
          rw [e]
          refine Ev.step (f := fun _ => some false) (fun k => ?_) (by simpa using Ev.now false)
          simp only [spec_paGood.l0]
          rw [if_pos (by omega), if_pos (by omega), if_pos (by omega), rdP_at hi, wn, l1In_eq, b1, Option.bind_some, if_pos rfl, w1, l1In_eq, b2, Option.bind_some, if_neg (by simp)]
      · have b1 : (decide (0 ≤ l[i].f0) && decide (l[i].f0 ≤ n - 1)) = false := by
          rw [Bool.eq_false_iff]; intro q; exact a1 (by simpa using q)
        have e : okAt n l i = false := by rw [e0]; simp [pairOk]; omega
        rw [e]
        refine Ev.step (f := fun _ => some false) (fun k => ?_) (by simpa using Ev.now false)
        simp only [spec_paGood.l0]
        rw [if_pos (by omega), if_pos (by omega), if_pos (by omega), rdP_at hi, wn, l1In_eq, b1, Option.bind_some, if_neg (by simp)]) 0 (Nat.zero_le _)
  simpa using q

theorem paGood_ev (n : Int) (l : List Pr) (h : l.length ≤ 9223372036854775807) : Ev (fun k => spec_paGood.f k n l) (party n l) := by
  unfold spec_paGood.f
  refine ev_bind0 (paPeople_eq n) ?_
  cases hb : (decide (0 ≤ n) && decide (n ≤ 12)) with
  | false =>
    have e : party n l = false := by unfold party; rw [hb]; rfl
    rw [e]
    refine ev_if (fun h => by simp at h) (fun _ => ?_)
    exact Ev.step (f := fun _ => some false) (fun k => by simp [spec_paGood.j0]) (Ev.now _)
  | true =>
    have hn : 0 ≤ n ∧ n ≤ 12 := by simpa using hb
    have e : party n l = (List.range l.length).all (okAt n l) := by unfold party; rw [hb]; rfl
    refine ev_if (fun _ => ?_) (fun h => absurd rfl h)
    rw [bound_eq hn.1 hn.2]
    by_cases c : (l.length : Int) > n * (n - 1) / 2
    · refine Ev.step (f := fun _ => some false) (fun k => ?_) ?_
      · simp only [spec_paGood.j0]
        rw [if_pos (decide_eq_true c)]
      · cases hp : party n l with
        | false => exact Ev.now _
        | true =>
          exfalso
          obtain ⟨m, rfl, h12, hr, hs⟩ := party_right hp
          have := party_len h12 hr hs
          omega
    · rw [e]
      refine Ev.step (f := fun k => spec_paGood.l0 k l (l.length : Int) 0 n l) (fun k => ?_) (paGood_l0 n l hn.1 hn.2 h)
      simp only [spec_paGood.j0]
      rw [if_neg (by simpa using c)]
end Go.Proofs.Ytipblaifgpnebaa.Plain
