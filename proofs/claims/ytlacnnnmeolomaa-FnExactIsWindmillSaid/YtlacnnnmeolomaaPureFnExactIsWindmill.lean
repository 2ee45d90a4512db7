/- The program's IsWindmill returns what the reference's returns, for all arguments. No condition. -/
import Derived.Test.YtlacnnnmeolomaaQ0
import Derived.Test.YtlacnnnmeolomaaQ12
import Derived.Test.YtlacnnnmeolomaaQ46
import Derived.Test.YtlacnnnmeolomaaQ132
import Derived.Test.YtlacnnnmeolomaaQ133
import Derived.Test.YtlacnnnmeolomaaQ137
import Derived.Test.YtlacnnnmeolomaaQ138
import Derived.Test.YtlacnnnmeolomaaSayFnExactIsWindmill
import Derived.Test.YtlacnnnmeolomaaBase
import Derived.Test.YtlacnnnmeolomaaInts
import Derived.Test.YtlacnnnmeolomaaParty
import Derived.Test.YtlacnnnmeolomaaGraph
import Derived.Test.YtlacnnnmeolomaaTable
import Derived.Test.YtlacnnnmeolomaaCount16
import Derived.Test.YtlacnnnmeolomaaNums
import Derived.Test.YtlacnnnmeolomaaPartyLaw
import Derived.Test.YtlacnnnmeolomaaGood
import Derived.Test.YtlacnnnmeolomaaFriendship
import Derived.Test.YtlacnnnmeolomaaFriendly
namespace Go.Proofs.Ytlacnnnmeolomaa.Pure
open Go.RowKit Go.Proofs.YtlacnnnmeolomaaW.PrintWords Go.Proofs.YtlacnnnmeolomaaW.PrintLast
set_option linter.unusedVariables false
open Q Plain

/-- The numbers of friends are twice as many together as there are pairs. -/
theorem handshake {n : Nat} {l : List Pr} (hr : Right n l) (hs : ∀ i j, (hj : j < l.length) → (hij : i < j) → lessB l[i] l[j] = true) : sumN (fun a => cnt (adj l a) n) n = 2 * l.length := by
  have key : ∀ i, i ≤ l.length → sumN (fun a => cnt (adj (l.take i) a) n) n = 2 * i := by
    intro i
    induction i with
    | zero =>
      intro _
      have hz : ∀ a m, cnt (adj (l.take 0) a) m = 0 := by
        intro a m
        induction m with
        | zero => rfl
        | succ m ih => rw [cnt_succ, ih, List.take_zero, adj_nil]; rfl
      have : sumN (fun a => cnt (adj (l.take 0) a) n) n = sumN (fun _ => 0) n := sumN_congr (fun b _ => hz b n)
      rw [this, sumN_const]; omega
    | succ i ih =>
      intro hi
      have r := hr _ (List.getElem_mem (by omega : i < l.length))
      have hf := fresh_pair hr hs (i := i) (by omega)
      have hf2 : adj (l.take i) l[i].f1.toNat l[i].f0.toNat = false := by rw [adj_comm]; exact hf
      have hne : l[i].f0.toNat ≠ l[i].f1.toNat := by omega
      have hadj : ∀ a b, adj (l.take (i + 1)) a b = (adj (l.take i) a b || ((decide (a = l[i].f0.toNat) && decide (b = l[i].f1.toNat)) || (decide (a = l[i].f1.toNat) && decide (b = l[i].f0.toNat)))) := by
        intro a b
        rw [List.take_succ_eq_append_getElem (by omega), adj_snoc]
        congr 1
        have k1 : decide (a = l[i].f0.toNat) = decide (l[i].f0 = (a : Int)) := by apply decide_eq_decide.mpr; omega
        have k2 : decide (b = l[i].f1.toNat) = decide (l[i].f1 = (b : Int)) := by apply decide_eq_decide.mpr; omega
        have k3 : decide (a = l[i].f1.toNat) = decide (l[i].f1 = (a : Int)) := by apply decide_eq_decide.mpr; omega
        have k4 : decide (b = l[i].f0.toNat) = decide (l[i].f0 = (b : Int)) := by apply decide_eq_decide.mpr; omega
        rw [k1, k2, k3, k4, Bool.and_comm (decide (l[i].f1 = (a : Int)))]
      have e : sumN (fun a => cnt (adj (l.take (i + 1)) a) n) n = sumN (fun a => cnt (adj (l.take i) a) n + ((if a = l[i].f0.toNat then 1 else 0) + (if a = l[i].f1.toNat then 1 else 0))) n := by
        apply sumN_congr
        intro a ha
        by_cases q1 : a = l[i].f0.toNat
        · rw [if_pos q1, if_neg (by omega)]
          subst q1
          exact cnt_one (a := l[i].f1.toNat) (by omega) hf (fun b _ => by rw [hadj]; simp [hne])
        · rw [if_neg q1]
          by_cases q2 : a = l[i].f1.toNat
          · rw [if_pos q2]
            subst q2
            exact cnt_one (a := l[i].f0.toNat) (by omega) hf2 (fun b _ => by rw [hadj]; simp [hne.symm])
          · rw [if_neg q2]
            exact cnt_congr (fun b _ => by rw [hadj]; simp [q1, q2])
      rw [e, sumN_add, sumN_add, ih (by omega)]
      have s1 := sumN_but l[i].f0.toNat 1 0 (n := n) (by omega)
      have s2 := sumN_but l[i].f1.toNat 1 0 (n := n) (by omega)
      omega
  have := key l.length (Nat.le_refl _)
  rwa [List.take_length] at this

/-- What both sides tell. -/
def mill (n : Int) (l : List Pr) : Bool × Bool := if someParty n l = true then (friendlyB n.toNat (adj l), true) else (false, false)

theorem implMill_ev (n : Int) (l : List Pr) (h : l.length ≤ 9223372036854775807) : Ev (fun k => impl_IsWindmill.f k n l) (mill n l) := by
  unfold impl_IsWindmill.f
  refine Ev.bind (isFriendly_ev n l h) ?_
  exact ev_some (fun _ => rfl)

theorem specMill_ev (n : Int) (l : List Pr) (h : l.length ≤ 1048576) : Ev (fun k => spec_IsWindmill.f k n l) (mill n l) := by
  unfold spec_IsWindmill.f
  have hsome : Ev (fun k => spec_cfSome.f k n l) (someParty n l) := by
    unfold spec_cfSome.f someParty
    refine Ev.bind (paGood_ev n l (by omega)) ?_
    cases party n l with
    | true => exact ev_some (fun _ => by simp)
    | false => exact ev_some (fun _ => by simp)
  refine Ev.bind hsome ?_
  unfold mill
  refine ev_if (fun b => ?_) (fun b => by rw [if_neg b]; exact Ev.now _)
  rw [if_pos b]
  have bp : party n l = true := by unfold someParty at b; simp only [Bool.and_eq_true] at b; exact b.1
  have bn : n > 0 := by unfold someParty at b; simp only [Bool.and_eq_true, decide_eq_true_eq] at b; exact b.2
  obtain ⟨m, rfl, hm, hr, hs⟩ := party_right bp
  rw [Int.toNat_natCast]
  refine ev_if (fun c => ?_) (fun c => ?_)
  · have e : friendlyB m (adj l) = true := by
      have : m = 1 := by omega
      subst this
      rw [friendlyB_iff]
      intro a b ha hb hab
      omega
    rw [e]; exact Ev.now _
  · have hm2 : 2 ≤ m := by omega
    refine Ev.bind (paNumbers_ev hm hr hs (by omega)) ?_
    have wn : wrap64 ((m : Int) - 1) = ((m - 1 : Nat) : Int) := by rw [wrap_id (by omega) (by omega)]; omega
    -- the loop: all are m - 1 or 2, and some are m - 1
    have q : ∀ d i (t : Bool), i ≤ m → m - i = d → Ev (fun k => spec_IsWindmill.l0 k t (numsF m (adj l)) (m : Int) (i : Int) (m : Int) l)
        (((List.range m).drop i).all (fun a => decide (cnt (adj l a) m = m - 1) || decide (cnt (adj l a) m = 2)) && ((t || ((List.range m).drop i).any (fun a => decide (cnt (adj l a) m = m - 1))) && decide (2 * l.length = 3 * (m - 1))), true) := by
      intro d
      induction d with
      | zero =>
        intro i t hi hd
        have e : i = m := by omega
        subst e
        have w1 : wrap64 (2 * (l.length : Int)) = ((2 * l.length : Nat) : Int) := by rw [wrap_id (by omega) (by omega)]; omega
        have w2 : wrap64 (3 * (wrap64 ((i : Int) - 1))) = ((3 * (i - 1) : Nat) : Int) := by rw [wn, wrap_id (by omega) (by omega)]; omega
        have ea : ((List.range i).drop i).any (fun a => decide (cnt (adj l a) i = i - 1)) = false := by rw [List.drop_of_length_le (by simp)]; rfl
        rw [all_end _ (Nat.le_refl _), ea, Bool.true_and, Bool.or_false]
        refine Ev.step (f := fun _ => if t = true then some ((((2 * l.length : Nat) : Int) == ((3 * (i - 1) : Nat) : Int)), true) else some (false, true)) (fun k => ?_) ?_
        · simp only [spec_IsWindmill.l0]
          rw [if_neg (by omega), w1, w2]
        · cases t with
          | false => exact ev_some (fun _ => by simp)
          | true =>
            refine ev_some (fun _ => ?_)
            have e3 : (((2 * l.length : Nat) : Int) == ((3 * (i - 1) : Nat) : Int)) = decide (2 * l.length = 3 * (i - 1)) := by
              rw [Bool.eq_iff_iff, beq_iff_eq, decide_eq_true_eq]; omega
            rw [e3]; simp
      | succ d ihd =>
        intro i t hi hd
        have hil : i < m := by omega
        have hin : i < (numsF m (adj l)).length := by rw [numsF_length]; exact hil
        have ean : ((List.range m).drop i).any (fun a => decide (cnt (adj l a) m = m - 1)) = (decide (cnt (adj l i) m = m - 1) || ((List.range m).drop (i + 1)).any (fun a => decide (cnt (adj l a) m = m - 1))) := by
          rw [List.drop_eq_getElem_cons (by simpa using hil), List.any_cons, List.getElem_range]
        rw [all_step _ hil, ean]
        by_cases c1 : cnt (adj l i) m = m - 1
        · refine Ev.step (f := fun k => spec_IsWindmill.l0 k true (numsF m (adj l)) (m : Int) ((i + 1 : Nat) : Int) (m : Int) l) (fun k => ?_) (by
            have := ihd (i + 1) true (by omega) (by omega)
            rw [decide_eq_true c1]; simpa using this)
          simp only [spec_IsWindmill.l0]
          rw [if_pos (by omega), if_pos (by omega), if_pos (by omega), numsF_get hil, wn, if_pos (by omega), succ_cast hil (by omega)]
        · by_cases c2 : cnt (adj l i) m = 2
          · refine Ev.step (f := fun k => spec_IsWindmill.l0 k t (numsF m (adj l)) (m : Int) ((i + 1 : Nat) : Int) (m : Int) l) (fun k => ?_) (by
              have := ihd (i + 1) t (by omega) (by omega)
              rw [decide_eq_false c1, decide_eq_true c2]; simpa using this)
            simp only [spec_IsWindmill.l0]
            rw [if_pos (by omega), if_pos (by omega), if_pos (by omega), numsF_get hil, wn, if_neg (by omega), if_pos (by omega), succ_cast hil (by omega)]
          · refine Ev.step (f := fun _ => some (false, true)) (fun k => ?_) (by rw [decide_eq_false c1, decide_eq_false c2]; simpa using Ev.now (false, true))
            simp only [spec_IsWindmill.l0]
            rw [if_pos (by omega), if_pos (by omega), if_pos (by omega), numsF_get hil, wn, if_neg (by omega), if_neg (by omega)]
    have q0 := q m 0 false (Nat.zero_le _) rfl
    have e : ((((List.range m).drop 0).all (fun a => decide (cnt (adj l a) m = m - 1) || decide (cnt (adj l a) m = 2)) && ((false || ((List.range m).drop 0).any (fun a => decide (cnt (adj l a) m = m - 1))) && decide (2 * l.length = 3 * (m - 1))))) = friendlyB m (adj l) := by
      rw [List.drop_zero, Bool.false_or, Bool.eq_iff_iff, friendlyB_iff]
      simp only [Bool.and_eq_true, List.all_eq_true, List.any_eq_true, List.mem_range, Bool.or_eq_true, decide_eq_true_eq]
      have hE := handshake hr hs
      constructor
      · rintro ⟨h1, ⟨a, ha, h2⟩, h3⟩
        exact degrees_friendly (fun a b => adj_comm l a b) (fun a => adj_self hr a) hm2 hE h1 ⟨a, ha, h2⟩ h3
      · intro hF
        obtain ⟨h1, ⟨a, ha, h2⟩, h3⟩ := friendly_degrees (fun a b => adj_comm l a b) (fun a => adj_self hr a) hF hm2 hm hE
        exact ⟨h1, ⟨a, ha, h2⟩, h3⟩
    rw [e] at q0
    rw [numsF_length]
    exact q0

theorem FnExactIsWindmill : laws_FnExactIsWindmill.Pure := by
  intro n l _ hl _
  refine Ev.rounds (g := fun k => laws_FnExactIsWindmill.f k n l) ?_
  unfold laws_FnExactIsWindmill.f
  refine ev_bind0 (szParty_eq n l 1048576 (by omega) (by omega) hl) ?_
  refine ev_if (fun _ => Ev.now _) (fun hb => ?_)
  have hs : l.length ≤ 1048576 := by
    by_cases h : (1048576 : Int) < (l.length : Int)
    · rw [if_pos h] at hb; omega
    · omega
  have hT := toParty_ev n l (by omega)
  have hl2 : (l.map toP).length ≤ 9223372036854775807 := by rw [List.length_map]; exact hl
  have hrest : ∀ x42 : Bool, x42 = false → Ev (fun k => laws_FnExactIsWindmill.j0 k x42 n l n (l.map toP)) true := by
    intro x42 he
    refine Ev.step (f := fun k => (laws_toParty.f k n l).bind fun bt => (laws_eqParty.f k n (l.map toP) bt.1 bt.2).bind fun t => if t = true then some true else some false) (fun k => ?_) ?_
    · simp only [laws_FnExactIsWindmill.j0]
      rw [if_neg (by rw [he]; simp)]
    · refine Ev.bind hT ?_
      exact Ev.bind (f := fun _ t => if t = true then some true else some false) (eqParty_ev n _ hl2) (ev_some (fun _ => rfl))
  refine Ev.bind hT ?_
  refine Ev.bind (specMill_ev n _ (by rw [List.length_map]; exact hs)) ?_
  refine Ev.bind hT ?_
  refine Ev.bind (implMill_ev n _ hl2) ?_
  refine ev_if (fun h => absurd h (by simp)) (fun _ => ?_)
  exact hrest _ (by simp)
end Go.Proofs.Ytlacnnnmeolomaa.Pure
