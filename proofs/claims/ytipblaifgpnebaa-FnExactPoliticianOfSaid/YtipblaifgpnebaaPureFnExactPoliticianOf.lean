/- The program's PoliticianOf returns what the reference's returns, for all arguments. No condition. -/
import Derived.Test.YtipblaifgpnebaaQ0
import Derived.Test.YtipblaifgpnebaaQ8
import Derived.Test.YtipblaifgpnebaaQ9
import Derived.Test.YtipblaifgpnebaaQ12
import Derived.Test.YtipblaifgpnebaaQ26
import Derived.Test.YtipblaifgpnebaaQ29
import Derived.Test.YtipblaifgpnebaaQ30
import Derived.Test.YtipblaifgpnebaaSayFnExactPoliticianOf
import Derived.Test.YtipblaifgpnebaaBase
import Derived.Test.YtipblaifgpnebaaInts
import Derived.Test.YtipblaifgpnebaaParty
import Derived.Test.YtipblaifgpnebaaGraph
import Derived.Test.YtipblaifgpnebaaTable
import Derived.Test.YtipblaifgpnebaaCount16
import Derived.Test.YtipblaifgpnebaaNums
import Derived.Test.YtipblaifgpnebaaPartyLaw
import Derived.Test.YtipblaifgpnebaaGood
import Derived.Test.YtipblaifgpnebaaFriends
import Derived.Test.YtipblaifgpnebaaIdx
namespace Go.Proofs.Ytipblaifgpnebaa.Pure
open Go.RowKit Go.Proofs.YtipblaifgpnebaaW.PrintWords Go.Proofs.YtipblaifgpnebaaW.PrintLast
set_option linter.unusedVariables false
open Q Plain

/-- What both sides tell. -/
def polit (n : Int) (l : List Pr) : Int × Bool := if party n l = true ∧ 0 ≤ idxI (numsF n.toNat (adj l)) (n - 1) then (idxI (numsF n.toNat (adj l)) (n - 1), true) else (0, false)

theorem cf_ev {m : Nat} {l : List Pr} (hm : m ≤ 12) (hr : Right m l) (hs : ∀ i j, (hj : j < l.length) → (hij : i < j) → lessB l[i] l[j] = true) (h : l.length ≤ 9223372036854775807) :
    Ev (fun k => spec_cfPolitician.f k (m : Int) l) (idxI (numsF m (adj l)) ((m : Int) - 1)) := by
  unfold spec_cfPolitician.f
  refine Ev.bind (paNumbers_ev hm hr hs h) ?_
  have hz : (numsF m (adj l)).length = m := numsF_length _ _
  generalize numsF m (adj l) = z at hz
  have wn : wrap64 ((m : Int) - 1) = (m : Int) - 1 := wrap_id (by omega) (by omega)
  have q := ev_up (n := z.length) (loop := fun k i => spec_cfPolitician.l0 k z (z.length : Int) (i : Int) (m : Int) l) (r := fun i => if idxI (z.drop i) ((m : Int) - 1) < 0 then -1 else (i : Int) + idxI (z.drop i) ((m : Int) - 1))
    (Ev.step (f := fun _ => some (-1)) (fun k => by simp only [spec_cfPolitician.l0]; rw [if_neg (by omega)]) (by simpa [idxI] using Ev.now (-1 : Int)))
    (fun i hi ih => by
      rw [List.drop_eq_getElem_cons hi]
      by_cases e : z[i] = (m : Int) - 1
      · refine Ev.step (f := fun _ => some (i : Int)) (fun k => ?_) ?_
        · simp only [spec_cfPolitician.l0]
          rw [if_pos (by omega), if_pos (by omega), if_pos (by omega), rd_at hi, wn, if_pos e]
        · have : idxI (z[i] :: z.drop (i + 1)) ((m : Int) - 1) = 0 := by unfold idxI; rw [if_pos e.symm]
          rw [this]; simpa using Ev.now (i : Int)
      · refine Ev.step (f := fun k => spec_cfPolitician.l0 k z (z.length : Int) ((i + 1 : Nat) : Int) (m : Int) l) (fun k => ?_) ?_
        · simp only [spec_cfPolitician.l0]
          rw [if_pos (by omega), if_pos (by omega), if_pos (by omega), rd_at hi, wn, if_neg e, succ_cast hi (by omega)]
        · have : idxI (z[i] :: z.drop (i + 1)) ((m : Int) - 1) = if idxI (z.drop (i + 1)) ((m : Int) - 1) < 0 then -1 else idxI (z.drop (i + 1)) ((m : Int) - 1) + 1 := by rw [idxI]; rw [if_neg (fun q => e q.symm)]
          rw [this]
          by_cases h2 : idxI (z.drop (i + 1)) ((m : Int) - 1) < 0
          · rw [if_pos h2] at ih ⊢; rw [if_pos (by omega)]; exact ih
          · rw [if_neg h2] at ih ⊢
            rw [if_neg (by omega)]
            have e3 : (i : Int) + (idxI (z.drop (i + 1)) ((m : Int) - 1) + 1) = ((i + 1 : Nat) : Int) + idxI (z.drop (i + 1)) ((m : Int) - 1) := by omega
            rw [e3]; exact ih) 0 (Nat.zero_le _)
  have e : (if idxI (z.drop 0) ((m : Int) - 1) < 0 then -1 else ((0 : Nat) : Int) + idxI (z.drop 0) ((m : Int) - 1)) = idxI z ((m : Int) - 1) := by
    have := (idxI_range z ((m : Int) - 1)).1
    rw [List.drop_zero]
    split <;> omega
  rw [e] at q
  exact q

theorem spec_ev (n : Int) (l : List Pr) (h : l.length ≤ 9223372036854775807) : Ev (fun k => spec_PoliticianOf.f k n l) (polit n l) := by
  unfold spec_PoliticianOf.f
  refine Ev.bind (paGood_ev n l h) ?_
  refine ev_if (fun b => ?_) (fun b => by unfold polit; rw [if_neg (fun q => b q.1)]; exact Ev.now _)
  obtain ⟨m, rfl, hm, hr, hs⟩ := party_right b
  unfold polit
  rw [Int.toNat_natCast]
  refine Ev.bind (cf_ev hm hr hs h) ?_
  refine ev_if (fun c => by rw [if_neg (by omega)]; exact Ev.now _) (fun c => ?_)
  rw [if_pos ⟨b, by omega⟩]
  exact Ev.bind (f := fun _ t => some (t, true)) (cf_ev hm hr hs h) (Ev.now _)

theorem impl_ev (n : Int) (l : List Pr) (h : l.length ≤ 9223372036854775807) : Ev (fun k => impl_PoliticianOf.f k n l) (polit n l) := by
  unfold impl_PoliticianOf.f
  refine Ev.bind (numbersOfFriends_ev n l h) ?_
  by_cases b : party n l = true
  · obtain ⟨m, rfl, hm, hr, hs⟩ := party_right b
    rw [if_pos b, Int.toNat_natCast]
    have hz : (numsF m (adj l)).length = m := numsF_length _ _
    have wn : wrap64 ((m : Int) - 1) = (m : Int) - 1 := wrap_id (by omega) (by omega)
    rw [wn]
    refine Ev.bind (index_ev (numsF m (adj l)) _ (by omega)) ?_
    unfold polit
    rw [Int.toNat_natCast]
    refine ev_some (fun _ => ?_)
    by_cases c : 0 ≤ idxI (numsF m (adj l)) ((m : Int) - 1)
    · rw [if_pos ⟨b, c⟩, decide_eq_true c]
      congr 2
      show mx (idxI (numsF m (adj l)) ((m : Int) - 1)) 0 = _
      unfold mx; split <;> omega
    · rw [if_neg (fun q => c q.2), decide_eq_false c]
      congr 2
      show mx (idxI (numsF m (adj l)) ((m : Int) - 1)) 0 = _
      unfold mx; split <;> omega
  · rw [if_neg b]
    refine Ev.bind (index_ev _ _ (by simp)) ?_
    unfold polit
    rw [if_neg (fun q => b q.1)]
    refine ev_some (fun _ => ?_)
    simp [idxI, mx]

theorem FnExactPoliticianOf : laws_FnExactPoliticianOf.Pure := by
  intro n l _ hl _
  refine Ev.rounds (g := fun k => laws_FnExactPoliticianOf.f k n l) ?_
  unfold laws_FnExactPoliticianOf.f
  refine ev_bind0 (szParty_eq n l 1048576 (by omega) (by omega) hl) ?_
  refine ev_if (fun _ => Ev.now _) (fun hb => ?_)
  have hs : l.length ≤ 1048576 := by
    by_cases h : (1048576 : Int) < (l.length : Int)
    · rw [if_pos h] at hb; omega
    · omega
  have hT := toParty_ev n l (by omega)
  have hl2 : (l.map toP).length ≤ 9223372036854775807 := by rw [List.length_map]; exact hl
  have hs2 : (l.map toP).length ≤ 1048576 := by rw [List.length_map]; exact hs
  have hrest : ∀ x42 : Bool, x42 = false → Ev (fun k => laws_FnExactPoliticianOf.j0 k x42 n l n (l.map toP)) true := by
    intro x42 he
    refine Ev.step (f := fun k => (laws_toParty.f k n l).bind fun bt => (laws_eqParty.f k n (l.map toP) bt.1 bt.2).bind fun t => if t = true then some true else some false) (fun k => ?_) ?_
    · simp only [laws_FnExactPoliticianOf.j0]
      rw [if_neg (by rw [he]; simp)]
    · refine Ev.bind hT ?_
      exact Ev.bind (f := fun _ t => if t = true then some true else some false) (eqParty_ev n _ hl2) (ev_some (fun _ => rfl))
  refine Ev.bind hT ?_
  refine Ev.bind (spec_ev n _ hl2) ?_
  refine Ev.bind hT ?_
  refine Ev.bind (impl_ev n _ hl2) ?_
  refine ev_if (fun _ => ?_) (fun h => absurd rfl h)
  exact hrest _ (by simp)
end Go.Proofs.Ytipblaifgpnebaa.Pure
