/- The program's CircleParty returns what the reference's returns, for all arguments. No condition. -/
import Derived.Test.YtipblaifgpnebaaQ0
import Derived.Test.YtipblaifgpnebaaQ29
import Derived.Test.YtipblaifgpnebaaQ32
import Derived.Test.YtipblaifgpnebaaQ46
import Derived.Test.YtipblaifgpnebaaQ53
import Derived.Test.YtipblaifgpnebaaQ55
import Derived.Test.YtipblaifgpnebaaQ59
import Derived.Test.YtipblaifgpnebaaQ60
import Derived.Test.YtipblaifgpnebaaQ61
import Derived.Test.YtipblaifgpnebaaQ63
import Derived.Test.YtipblaifgpnebaaQ66
import Derived.Test.YtipblaifgpnebaaQ67
import Derived.Test.YtipblaifgpnebaaQ68
import Derived.Test.YtipblaifgpnebaaQ70
import Derived.Test.YtipblaifgpnebaaQ71
import Derived.Test.YtipblaifgpnebaaBase
import Derived.Test.YtipblaifgpnebaaInts
import Derived.Test.YtipblaifgpnebaaParty
import Derived.Test.YtipblaifgpnebaaGraph
import Derived.Test.YtipblaifgpnebaaTable
import Derived.Test.YtipblaifgpnebaaTableB
import Derived.Test.YtipblaifgpnebaaPartyOf
import Derived.Test.YtipblaifgpnebaaOther
import Derived.Test.YtipblaifgpnebaaPut
import Derived.Test.YtipblaifgpnebaaRise
import Derived.Test.YtipblaifgpnebaaPartyLaw
import Derived.Test.YtipblaifgpnebaaMarks
namespace Go.Proofs.Ytipblaifgpnebaa.Pure
open Go.RowKit Go.Proofs.YtipblaifgpnebaaW.PrintWords Go.Proofs.YtipblaifgpnebaaW.PrintLast
set_option linter.unusedVariables false
open Q Plain

/-- A person's pairs: the others at the given distances. -/
def circRow (n : Nat) (a : Nat) (l : List Int) (f : Nat → Nat → Bool) : Nat → Nat → Bool := l.foldl (fun f d => withP f a ((a + d.toNat) % n)) f
/-- The pairs of people from a on. -/
def circFrom (n : Nat) (l : List Int) (a : Nat) (f : Nat → Nat → Bool) : Nat → Nat → Bool := ((List.range n).drop a).foldl (fun f a => circRow n a l f) f
/-- The numbers for which there is a party. -/
def circOk (n : Int) (l : List Int) : Bool := (decide (1 ≤ n) && decide (n ≤ 12)) && decide (l.length ≤ 6) && rising l && l.all (fun x => decide (1 ≤ x) && decide (x ≤ wrap64 (Int.tdiv n 2)))
/-- What both sides tell. -/
def circ (n : Int) (l : List Int) : Int × List Pr × Bool := if circOk n l = true then (n, pairsF n.toNat (circFrom n.toNat l 0 (fun _ _ => false)), true) else (0, [], false)

theorem circFrom_end (n : Nat) (l : List Int) (f : Nat → Nat → Bool) : circFrom n l n f = f := by
  unfold circFrom
  rw [List.drop_of_length_le (by simp)]; rfl
theorem circFrom_step {n a : Nat} (l : List Int) (f : Nat → Nat → Bool) (h : a < n) : circFrom n l a f = circFrom n l (a + 1) (circRow n a l f) := by
  unfold circFrom
  rw [List.drop_eq_getElem_cons (by simpa using h), List.foldl_cons, List.getElem_range]

theorem other_ok {n a : Nat} {d : Int} (hn : n ≤ 12) (ha : a < n) (h1 : 1 ≤ d) (h2 : d ≤ ((n / 2 : Nat) : Int)) :
    (a + d.toNat) % n < n ∧ a ≠ (a + d.toNat) % n ∧ Int.tmod (wrap64 ((a : Int) + d)) (n : Int) = (((a + d.toNat) % n : Nat) : Int) := by
  refine ⟨Nat.mod_lt _ (by omega), ?_, ?_⟩
  · rcases Nat.lt_or_ge (a + d.toNat) n with c | c
    · rw [Nat.mod_eq_of_lt c]; omega
    · rw [Nat.mod_eq_sub_mod c, Nat.mod_eq_of_lt (by omega)]; omega
  · have e : wrap64 ((a : Int) + d) = ((a + d.toNat : Nat) : Int) := by rw [wrap_id (by omega) (by omega)]; omega
    rw [e]; rfl

theorem spec_rows {n : Nat} (hn1 : 1 ≤ n) (hn : n ≤ 12) (l : List Int) (hl : l.length ≤ 6) (hx : ∀ x ∈ l, 1 ≤ x ∧ x ≤ ((n / 2 : Nat) : Int)) :
    Ev (fun k => spec_CircleParty.l1 k (n : Int) l (tabB n (fun _ _ => false)) (n : Int) 0) ((n : Int), pairsF n (circFrom n l 0 (fun _ _ => false)), true) := by
  have outer : ∀ d a f, a ≤ n → n - a = d → Ev (fun k => spec_CircleParty.l1 k (n : Int) l (tabB n f) (n : Int) (a : Int)) ((n : Int), pairsF n (circFrom n l a f), true) := by
    intro d
    induction d with
    | zero =>
      intro a f ha hd
      have e : a = n := by omega
      subst e
      rw [circFrom_end]
      refine Ev.step (f := fun k => (spec_paOf.f k (tabB a f)).bind fun bt => some (bt.1, bt.2, true)) (fun k => ?_) (Ev.bind (f := fun _ bt => some (bt.1, bt.2, true)) (paOf_ev hn f) (Ev.now _))
      simp only [spec_CircleParty.l1]
      rw [if_neg (by omega)]
    | succ d ih =>
      intro a f ha hd
      have han : a < n := by omega
      rw [circFrom_step l f han]
      have inner : ∀ e j f, j ≤ l.length → l.length - j = e → Ev (fun k => spec_CircleParty.l2 k (n : Int) l (tabB n f) (a : Int) (n : Int) (a : Int) l (l.length : Int) (j : Int)) ((n : Int), pairsF n (circFrom n l (a + 1) (circRow n a (l.drop j) f)), true) := by
        intro e
        induction e with
        | zero =>
          intro j f hj he
          have e : j = l.length := by omega
          subst e
          rw [List.drop_length]
          refine Ev.step (f := fun k => spec_CircleParty.l1 k (n : Int) l (tabB n f) (n : Int) ((a + 1 : Nat) : Int)) (fun k => ?_) (ih (a + 1) f (by omega) (by omega))
          simp only [spec_CircleParty.l2]
          rw [if_neg (by omega), succ_cast han (by omega)]
        | succ e ihe =>
          intro j f hj he
          have hjl : j < l.length := by omega
          obtain ⟨x1, x2⟩ := hx _ (List.getElem_mem hjl)
          obtain ⟨o1, o2, o3⟩ := other_ok hn han x1 x2
          rw [List.drop_eq_getElem_cons hjl]
          have hrow : circRow n a (l[j] :: l.drop (j + 1)) f = circRow n a (l.drop (j + 1)) (withP f a ((a + l[j].toNat) % n)) := rfl
          rw [hrow]
          have hput := tabB_put f han o1 o2 true
          rw [setP_withP] at hput
          have la : (rd_L5 (tabB n f) (a : Int)).length = n := by rw [tabB_get han, rowB_length]
          have lb : (rd_L5 ((tabB n f).set a ((rd_L5 (tabB n f) (a : Int)).set ((a + l[j].toNat) % n) true)) (((a + l[j].toNat) % n : Nat) : Int)).length = n := by
            rw [rdB_at (by rw [List.length_set, tabB_length]; exact o1), List.getElem_set_ne o2, tabB_getElem, rowB_length]
          refine Ev.step (f := fun k => spec_CircleParty.l2 k (n : Int) l (tabB n (withP f a ((a + l[j].toNat) % n))) (a : Int) (n : Int) (a : Int) l (l.length : Int) ((j + 1 : Nat) : Int)) (fun k => ?_) (ihe (j + 1) _ (by omega) (by omega))
          simp only [spec_CircleParty.l2]
          rw [if_pos (by omega), if_pos (by omega), if_pos (by omega), if_neg (by omega), if_pos (by omega), if_pos (by rw [tabB_length]; omega), rd_at hjl, o3, if_pos (by omega), if_pos (by rw [la]; omega), Option.bind_some, if_pos (by rw [tabB_length]; omega), Int.toNat_natCast, Int.toNat_natCast, if_pos (by rw [lb]; omega), hput, succ_cast hjl (by omega)]
      refine Ev.step (f := fun k => spec_CircleParty.l2 k (n : Int) l (tabB n f) (a : Int) (n : Int) (a : Int) l (l.length : Int) 0) (fun k => ?_) (by simpa using inner l.length 0 f (Nat.zero_le _) rfl)
      simp only [spec_CircleParty.l1]
      rw [if_pos (by omega)]
  exact outer n 0 _ (Nat.zero_le _) rfl

theorem impl_rows {n : Nat} (hn1 : 1 ≤ n) (hn : n ≤ 12) (l : List Int) (hl : l.length ≤ 6) (hx : ∀ x ∈ l, 1 ≤ x ∧ x ≤ ((n / 2 : Nat) : Int)) :
    Ev (fun k => impl_CircleParty.l0 k (n : Int) l (tabF n (fun _ _ => false)) (n : Int) 0) ((n : Int), pairsF n (circFrom n l 0 (fun _ _ => false)), true) := by
  have outer : ∀ d a f, a ≤ n → n - a = d → Ev (fun k => impl_CircleParty.l0 k (n : Int) l (tabF n f) (n : Int) (a : Int)) ((n : Int), pairsF n (circFrom n l a f), true) := by
    intro d
    induction d with
    | zero =>
      intro a f ha hd
      have e : a = n := by omega
      subst e
      rw [circFrom_end]
      refine Ev.step (f := fun k => (impl_table_party.f k (tabF a f)).bind fun bt => some (bt.1, bt.2, true)) (fun k => ?_) (Ev.bind (f := fun _ bt => some (bt.1, bt.2, true)) (party_ev hn f) (Ev.now _))
      simp only [impl_CircleParty.l0]
      rw [if_neg (by omega)]
    | succ d ih =>
      intro a f ha hd
      have han : a < n := by omega
      rw [circFrom_step l f han]
      have inner : ∀ e j f, j ≤ l.length → l.length - j = e → Ev (fun k => impl_CircleParty.l1 k (n : Int) l (tabF n f) (a : Int) (n : Int) (a : Int) l (l.length : Int) (j : Int)) ((n : Int), pairsF n (circFrom n l (a + 1) (circRow n a (l.drop j) f)), true) := by
        intro e
        induction e with
        | zero =>
          intro j f hj he
          have e : j = l.length := by omega
          subst e
          rw [List.drop_length]
          refine Ev.step (f := fun k => impl_CircleParty.l0 k (n : Int) l (tabF n f) (n : Int) ((a + 1 : Nat) : Int)) (fun k => ?_) (ih (a + 1) f (by omega) (by omega))
          simp only [impl_CircleParty.l1]
          rw [if_neg (by omega), succ_cast han (by omega)]
        | succ e ihe =>
          intro j f hj he
          have hjl : j < l.length := by omega
          obtain ⟨x1, x2⟩ := hx _ (List.getElem_mem hjl)
          obtain ⟨o1, o2, o3⟩ := other_ok hn han x1 x2
          rw [List.drop_eq_getElem_cons hjl]
          have hrow : circRow n a (l[j] :: l.drop (j + 1)) f = circRow n a (l.drop (j + 1)) (withP f a ((a + l[j].toNat) % n)) := rfl
          rw [hrow]
          refine Ev.step (f := fun k => impl_CircleParty.l1 k (n : Int) l (tabF n (withP f a ((a + l[j].toNat) % n))) (a : Int) (n : Int) (a : Int) l (l.length : Int) ((j + 1 : Nat) : Int)) (fun k => ?_) (ihe (j + 1) _ (by omega) (by omega))
          simp only [impl_CircleParty.l1]
          rw [if_pos (by omega), if_pos (by omega), if_pos (by omega), if_neg (by omega), rd_at hjl, o3, put_eq hn f han o1 o2, Option.bind_some, succ_cast hjl (by omega)]
      refine Ev.step (f := fun k => impl_CircleParty.l1 k (n : Int) l (tabF n f) (a : Int) (n : Int) (a : Int) l (l.length : Int) 0) (fun k => ?_) (by simpa using inner l.length 0 f (Nat.zero_le _) rfl)
      simp only [impl_CircleParty.l0]
      rw [if_pos (by omega)]
  exact outer n 0 _ (Nat.zero_le _) rfl

/-- What a good number and good distances tell. -/
theorem circ_ok {n : Int} {l : List Int} (h : circOk n l = true) : ∃ m : Nat, n = (m : Int) ∧ 1 ≤ m ∧ m ≤ 12 ∧ l.length ≤ 6 ∧ ∀ x ∈ l, 1 ≤ x ∧ x ≤ ((m / 2 : Nat) : Int) := by
  unfold circOk at h
  simp only [Bool.and_eq_true, decide_eq_true_eq, List.all_eq_true] at h
  obtain ⟨⟨⟨⟨h1, h2⟩, h3⟩, _⟩, h5⟩ := h
  refine ⟨n.toNat, by omega, by omega, by omega, h3, fun x hx => ?_⟩
  obtain ⟨a, b⟩ := h5 x hx
  have e : Int.tdiv n 2 = ((n.toNat / 2 : Nat) : Int) := by
    have : n = ((n.toNat : Nat) : Int) := by omega
    conv => lhs; rw [this]
    rfl
  rw [e, wrap_id (by omega) (by omega)] at b
  exact ⟨a, b⟩

theorem spec_ev (n : Int) (l : List Int) (h : l.length ≤ 9223372036854775806) : Ev (fun k => spec_CircleParty.f k n l) (circ n l) := by
  unfold spec_CircleParty.f
  refine ev_bind0 (l1In_eq n 1 12) ?_
  have bad : circOk n l ≠ true → Ev (fun k => spec_CircleParty.j0 k n l true) (circ n l) := by
    intro hb
    unfold circ
    rw [if_neg hb]
    refine Ev.step (f := fun _ => some (0, [], false)) (fun k => ?_) (Ev.now _)
    simp only [spec_CircleParty.j0]
    rfl
  refine ev_if (fun c1 => ?_) (fun c1 => bad (fun q => c1 (by unfold circOk at q; simp only [Bool.and_eq_true] at q ⊢; exact q.1.1.1)))
  refine ev_if (fun c2 => bad (fun q => by obtain ⟨m, _, _, _, h6, _⟩ := circ_ok q; omega)) (fun c2 => ?_)
  refine Ev.bind (l1All_ev l 1 _ (by omega)) ?_
  by_cases c3 : (l.all fun x => decide (1 ≤ x) && decide (x ≤ wrap64 (Int.tdiv n 2))) = true
  · rw [c3]
    refine Ev.step (f := fun k => spec_CircleParty.l0 k n l 1) (fun k => ?_) ?_
    · simp only [spec_CircleParty.j0]
      rfl
    · -- the loop that looks whether the distances rise
      have q := ev_from (lo := 1) (n := max 1 l.length) (loop := fun k i => spec_CircleParty.l0 k n l (i : Int)) (r := fun i => if ((List.range l.length).drop i).all (risesAt l) = true then (n, pairsF n.toNat (circFrom n.toNat l 0 (fun _ _ => false)), true) else (0, [], false))
        (by
          rw [all_end _ (by omega), if_pos rfl]
          have hm : ∃ m : Nat, n = (m : Int) ∧ 1 ≤ m ∧ m ≤ 12 := by
            simp only [Bool.and_eq_true, decide_eq_true_eq] at c1
            exact ⟨n.toNat, by omega, by omega, by omega⟩
          obtain ⟨m, rfl, m1, m2⟩ := hm
          have hx : ∀ x ∈ l, 1 ≤ x ∧ x ≤ ((m / 2 : Nat) : Int) := by
            intro x hx
            rw [List.all_eq_true] at c3
            have := c3 x hx
            simp only [Bool.and_eq_true, decide_eq_true_eq] at this
            have e : Int.tdiv (m : Int) 2 = ((m / 2 : Nat) : Int) := rfl
            rw [e, wrap_id (by omega) (by omega)] at this
            exact this
          refine Ev.step (f := fun k => (spec_paTable.f k (m : Int) []).bind fun t => spec_CircleParty.l1 k (m : Int) l t (t.length : Int) 0) (fun k => ?_) ?_
          · simp only [spec_CircleParty.l0]
            rw [if_neg (by omega)]
          · refine Ev.bind (paTable0_ev m2) ?_
            rw [tabB_length, Int.toNat_natCast]
            exact spec_rows m1 m2 l (by omega) hx)
        (fun i h0 hi ih => by
          have hl : i < l.length := by omega
          have e : risesAt l i = decide (l[i-1] < l[i]) := by
            unfold risesAt
            rw [show ((i : Int) - 1) = ((i - 1 : Nat) : Int) by omega, rd_at hl, rd_at (by omega : i - 1 < l.length)]
          simp only [all_step _ hl, e]
          by_cases c : l[i-1] ≥ l[i]
          · refine Ev.step (f := fun _ => some (0, [], false)) (fun k => ?_) (by simp only [decide_eq_false (show ¬ l[i-1] < l[i] by omega), Bool.false_and]; exact Ev.now _)
            simp only [spec_CircleParty.l0]
            rw [pred_cast h0 (by omega), if_pos (by omega), if_pos (by omega), if_pos (by omega), if_pos (by omega), rd_at hl, rd_at (by omega : i - 1 < l.length), if_pos c]
          · refine Ev.step (f := fun k => spec_CircleParty.l0 k n l ((i + 1 : Nat) : Int)) (fun k => ?_) (by simp only [decide_eq_true (show l[i-1] < l[i] by omega), Bool.true_and]; exact ih)
            simp only [spec_CircleParty.l0]
            rw [pred_cast h0 (by omega), if_pos (by omega), if_pos (by omega), if_pos (by omega), if_pos (by omega), rd_at hl, rd_at (by omega : i - 1 < l.length), if_neg c, succ_cast hl (by omega)]) 1 (Nat.le_refl _) (by omega)
      have e : (if ((List.range l.length).drop 1).all (risesAt l) = true then (n, pairsF n.toNat (circFrom n.toNat l 0 (fun _ _ => false)), true) else (0, [], false)) = circ n l := by
        unfold circ circOk
        have c2' : decide (l.length ≤ 6) = true := decide_eq_true (by omega)
        rw [c1, c2', c3]
        unfold rising
        simp only [Bool.true_and, Bool.and_true]
      rw [e] at q
      simpa using q
  · have c3' : (l.all fun x => decide (1 ≤ x) && decide (x ≤ wrap64 (Int.tdiv n 2))) = false := by simpa using c3
    rw [c3']
    exact bad (fun q => c3 (by unfold circOk at q; simp only [Bool.and_eq_true] at q; exact q.2))

theorem impl_ev (n : Int) (l : List Int) (h : l.length ≤ 9223372036854775806) : Ev (fun k => impl_CircleParty.f k n l) (circ n l) := by
  unfold impl_CircleParty.f
  have hs : impl_areSome.f n = some (decide (1 ≤ n) && decide (n ≤ 12)) := by unfold impl_areSome.f; rw [within_eq]; rfl
  refine ev_bind0 hs ?_
  have bad : circOk n l ≠ true → Ev (fun k => impl_CircleParty.j0 k n l true) (circ n l) := by
    intro hb
    unfold circ
    rw [if_neg hb]
    refine Ev.step (f := fun _ => some (0, [], false)) (fun k => ?_) (Ev.now _)
    simp only [impl_CircleParty.j0]
    rfl
  refine ev_if (fun c1 => ?_) (fun c1 => bad (fun q => c1 (by unfold circOk at q; simp only [Bool.and_eq_true] at q ⊢; exact q.1.1.1)))
  refine ev_if (fun c2 => bad (fun q => by obtain ⟨m, _, _, _, h6, _⟩ := circ_ok q; omega)) (fun c2 => ?_)
  refine Ev.bind (isRising_ev l h) ?_
  refine ev_if (fun c3 => ?_) (fun c3 => bad (fun q => c3 (by unfold circOk at q; simp only [Bool.and_eq_true] at q; exact q.1.2)))
  refine ev_bind0 (rfl : impl_areWithin.f l 1 (wrap64 (Int.tdiv n 2)) = some (l.all fun x => decide (1 ≤ x) && decide (x ≤ wrap64 (Int.tdiv n 2)))) ?_
  by_cases c4 : (l.all fun x => decide (1 ≤ x) && decide (x ≤ wrap64 (Int.tdiv n 2))) = true
  · have ok : circOk n l = true := by
      unfold circOk
      have c2' : decide (l.length ≤ 6) = true := decide_eq_true (by omega)
      rw [c1, c2', c3, c4]; rfl
    rw [c4]
    unfold circ
    rw [if_pos ok]
    obtain ⟨m, rfl, m1, m2, m3, hx⟩ := circ_ok ok
    refine Ev.step (f := fun k => impl_CircleParty.l0 k (m : Int) l (tabF m (fun _ _ => false)) (m : Int) 0) (fun k => ?_) (by rw [Int.toNat_natCast]; exact impl_rows m1 m2 l m3 hx)
    simp only [impl_CircleParty.j0]
    rw [if_neg (by simp), if_pos (by omega), Int.toNat_natCast, if_pos (by omega), Option.bind_some, tabF_zero, tabF_length]
  · have c4' : (l.all fun x => decide (1 ≤ x) && decide (x ≤ wrap64 (Int.tdiv n 2))) = false := by simpa using c4
    rw [c4']
    exact bad (fun q => c4 (by unfold circOk at q; simp only [Bool.and_eq_true] at q; exact q.2))

theorem circ_len (n : Int) (l : List Int) : (circ n l).2.1.length ≤ 1000 := by
  unfold circ
  by_cases h : circOk n l = true
  · rw [if_pos h]
    obtain ⟨m, rfl, m1, m2, m3, hx⟩ := circ_ok h
    rw [Int.toNat_natCast]
    exact pairsF_length m2 _
  · rw [if_neg h]; simp

theorem FnExactCircleParty : laws_FnExactCircleParty.Pure := by
  intro n l _ hl _ _
  refine Ev.rounds (g := fun k => laws_FnExactCircleParty.f k n l) ?_
  unfold laws_FnExactCircleParty.f
  refine ev_if (fun _ => Ev.now _) (fun hb => ?_)
  have hs : l.length ≤ 1048576 := by omega
  have hT := toIntS_ev l (by omega)
  have hS := spec_ev n l (by omega)
  have hI := impl_ev n l (by omega)
  have hp := circ_len n l
  generalize circ n l = z at hS hI hp
  obtain ⟨p, ps, ok⟩ := z
  replace hp : ps.length ≤ 1000 := hp
  have hE := eqParty_ev p ps (by omega)
  refine Ev.bind hT ?_
  refine Ev.bind hS ?_
  refine Ev.bind hT ?_
  refine Ev.bind hI ?_
  refine Ev.bind hE ?_
  refine ev_if (fun _ => ?_) (fun h => absurd rfl h)
  have hneq : (ok != ok) = false := by simp
  show Ev (fun k => laws_FnExactCircleParty.j0 k n l ok l ok (ok != ok) p ps p ps) true
  rw [hneq]
  have j2 : Ev (fun k => laws_FnExactCircleParty.j2 k (1 + 2 * (ps.length : Int)) false p (marksP 1 ps.length)) true := by
    refine Ev.step (f := fun k => (laws_heldParty.f k p (marksP 1 ps.length) 1).bind fun t => if t < 0 then some false else if t = 1 + 2 * (ps.length : Int) then some true else some false) (fun k => ?_) ?_
    · simp only [laws_FnExactCircleParty.j2]
      rfl
    · refine Ev.bind (heldParty_ev p _ (by omega)) ?_
      exact ev_if (fun q => by omega) (fun _ => ev_if (fun _ => Ev.now _) (fun h => absurd rfl h))
  have j1 : Ev (fun k => laws_FnExactCircleParty.j1 k n l ok false p ps p ps) true := by
    refine Ev.step (f := fun k => (laws_markParty.f k p ps 1).bind fun bt492 => ((laws_heldParty.f k p bt492.2 1).bind fun t494 => (if t494 < 0 then (some false) else (if t494 = bt492.1 then ((laws_toIntS.f k l).bind fun t495 => ((impl_CircleParty.f k n t495).bind fun bt498 => ((laws_eqParty.f k bt498.1 bt498.2.1 p ps).bind fun t504 => (if t504 = true then (laws_FnExactCircleParty.j2 k bt492.1 (bt498.2.2 != ok) p bt492.2) else (laws_FnExactCircleParty.j2 k bt492.1 true p bt492.2))))) else (some false))))) (fun k => ?_) ?_
    · simp only [laws_FnExactCircleParty.j1]
      rfl
    · refine Ev.bind (markParty_ev p ps (by omega)) ?_
      refine Ev.bind (heldParty_ev p _ (by omega)) ?_
      refine ev_if (fun q => by omega) (fun _ => ev_if (fun _ => ?_) (fun h => absurd rfl h))
      refine Ev.bind hT ?_
      refine Ev.bind hI ?_
      refine Ev.bind hE ?_
      refine ev_if (fun _ => ?_) (fun h => absurd rfl h)
      show Ev (fun k => laws_FnExactCircleParty.j2 k (1 + 2 * (ps.length : Int)) (ok != ok) p (marksP 1 ps.length)) true
      rw [hneq]
      exact j2
  refine Ev.step (f := fun k => (laws_toIntS.f k l).bind fun t485 => ((laws_eqIntS.f k l t485).bind fun t488 => (if t488 = true then ((laws_markIntS.f k l 1).bind fun bt489 => (if bt489.1 < 0 then (laws_FnExactCircleParty.j1 k n l ok true p ps p ps) else ((laws_eqParty.f k p ps p ps).bind fun t491 => (if t491 = true then (laws_FnExactCircleParty.j1 k n l ok (ok != ok) p ps p ps) else (laws_FnExactCircleParty.j1 k n l ok true p ps p ps))))) else (some false)))) (fun k => ?_) ?_
  · simp only [laws_FnExactCircleParty.j0]
    rfl
  · refine Ev.bind hT ?_
    refine Ev.bind (eqIntS_ev l (by omega)) ?_
    refine ev_if (fun _ => ?_) (fun h => absurd rfl h)
    refine Ev.bind (markIntS_ev l 1 (by omega) (by omega) (by omega)) ?_
    refine ev_if (fun (q : 1 + (l.length : Int) < 0) => by omega) (fun _ => ?_)
    refine Ev.bind hE ?_
    refine ev_if (fun _ => ?_) (fun h => absurd rfl h)
    rw [hneq]
    exact j1
end Go.Proofs.Ytipblaifgpnebaa.Pure
