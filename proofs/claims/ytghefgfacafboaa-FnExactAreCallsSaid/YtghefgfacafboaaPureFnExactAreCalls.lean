import Derived.Test.YtghefgfacafboaaQ0
import Derived.Test.YtghefgfacafboaaQ1
import Derived.Test.YtghefgfacafboaaQ3
import Derived.Test.YtghefgfacafboaaQ11
import Derived.Test.YtghefgfacafboaaQ24
import Derived.Test.YtghefgfacafboaaQ28
import Derived.Test.YtghefgfacafboaaQ31
import Derived.Test.YtghefgfacafboaaQ32
import Derived.Test.YtghefgfacafboaaSayFnExactAreCalls
/- Plain lemmas over rounds, lists and whole numbers, for the pure statements of this seat. No condition. -/
namespace Go.Proofs.Ytghefgfacafboaa.Plain
open Go.RowKit Go.Proofs.YtghefgfacafboaaW.PrintWords Go.Proofs.YtghefgfacafboaaW.PrintLast
set_option linter.unusedVariables false

theorem wrap_id {x : Int} (h0 : -9223372036854775808 ≤ x) (h1 : x ≤ 9223372036854775807) : wrap64 x = x := by
  unfold wrap64
  omega

theorem ev_bind0 {α β : Type} {g : Option α} {f : Nat → α → Option β} {a : α} {r : β} (h : g = some a) (k : Ev (fun n => f n a) r) : Ev (fun n => g.bind (f n)) r := by
  obtain ⟨K, hK⟩ := k
  refine ⟨K, fun n hn => ?_⟩
  show g.bind (f n) = some r
  rw [h]
  exact hK n hn

theorem ev_if {α : Type} {c : Prop} [Decidable c] {f g : Nat → Option α} {r : α} (hf : c → Ev f r) (hg : ¬ c → Ev g r) : Ev (fun n => if c then f n else g n) r := by
  by_cases h : c
  · obtain ⟨K, hK⟩ := hf h
    exact ⟨K, fun n hn => (if_pos h).trans (hK n hn)⟩
  · obtain ⟨K, hK⟩ := hg h
    exact ⟨K, fun n hn => (if_neg h).trans (hK n hn)⟩

/-- A loop over an index, from any index on, in one shape. -/
theorem ev_up {α : Type} {n : Nat} {loop : Nat → Nat → Option α} {r : Nat → α} (hend : Ev (fun k => loop k n) (r n)) (hstep : ∀ i, i < n → (Ev (fun k => loop k (i + 1)) (r (i + 1)) → Ev (fun k => loop k i) (r i))) :
    ∀ i, i ≤ n → Ev (fun k => loop k i) (r i) := by
  intro i hi
  have : ∀ d i, i ≤ n → n - i = d → Ev (fun k => loop k i) (r i) := by
    intro d
    induction d with
    | zero =>
      intro i hi hd
      have e : i = n := by omega
      rw [e]; exact hend
    | succ d ih =>
      intro i hi hd
      exact hstep i (by omega) (ih (i + 1) (by omega) (by omega))
  exact this (n - i) i hi rfl
theorem succ_cast {i n : Nat} (h : i < n) (hn : n ≤ 9223372036854775807) : wrap64 ((i : Int) + 1) = ((i + 1 : Nat) : Int) := by
  rw [wrap_id (by omega) (by omega)]; rfl
end Go.Proofs.Ytghefgfacafboaa.Plain

/- The law's own functions over lists of whole numbers: copies, equality, bounds. No condition but lengths that fit. -/
namespace Go.Proofs.Ytghefgfacafboaa.Plain
open Go.RowKit Go.Proofs.YtghefgfacafboaaW.PrintWords Go.Proofs.YtghefgfacafboaaW.PrintLast
set_option linter.unusedVariables false
open Q

theorem l1In_eq (a b c : Int) : spec_l1In.f a b c = some (decide (b ≤ a) && decide (a ≤ c)) := by
  unfold spec_l1In.f
  by_cases h : b ≤ a <;> simp [h]

theorem within_eq (a b c : Int) : impl_within.f a b c = some (decide (b ≤ a) && decide (a ≤ c)) := by
  unfold impl_within.f
  by_cases h : b ≤ a <;> simp [h]

end Go.Proofs.Ytghefgfacafboaa.Plain

/- Parties: both sides' tests, and the law's own functions over parties. No condition but lengths that fit. -/
namespace Go.Proofs.Ytghefgfacafboaa.Plain
open Go.RowKit Go.Proofs.YtghefgfacafboaaW.PrintWords Go.Proofs.YtghefgfacafboaaW.PrintLast
set_option linter.unusedVariables false
open Q

abbrev Pr := S70
abbrev rdP (l : List Pr) (i : Int) : Pr := rd_T70 l i

theorem rdP_at {l : List Pr} {i : Nat} (h : i < l.length) : rd_T70 l (i : Int) = l[i] := by
  simp [rd_T70, List.getD, h]

def pairOk (n : Int) (x : Pr) : Bool := decide (0 ≤ x.f0) && (decide (x.f0 < x.f1) && decide (x.f1 < n))
def lessB (x y : Pr) : Bool := decide (x.f0 < y.f0) || (decide (x.f0 = y.f0) && decide (x.f1 < y.f1))
/-- The pair at an index is right, and comes behind the one before. -/
def okAt (n : Int) (l : List Pr) (i : Nat) : Bool := pairOk n (rdP l i) && (decide (i = 0) || lessB (rdP l ((i : Int) - 1)) (rdP l i))
def party (n : Int) (l : List Pr) : Bool := (decide (0 ≤ n) && decide (n ≤ 12)) && (List.range l.length).all (okAt n l)

/-! What a party is, in words of numbers. -/
end Go.Proofs.Ytghefgfacafboaa.Plain

/- Is a list of pairs a list of calls, on both sides. No condition but a length that fits. -/
namespace Go.Proofs.Ytghefgfacafboaa.Plain
open Go.RowKit Go.Proofs.YtghefgfacafboaaW.PrintWords Go.Proofs.YtghefgfacafboaaW.PrintLast
set_option linter.unusedVariables false
open Q

/-- Calls of n people. -/
def callsB (n : Int) (l : List Pr) : Bool := (decide (1 ≤ n) && decide (n ≤ 12)) && (decide ((l.length : Int) ≤ 60) && l.all fun x => decide (0 ≤ x.f0) && decide (x.f0 < x.f1) && decide (x.f1 < n))

theorem areCalls_eq (n : Int) (l : List Pr) : impl_AreCalls.f n l = some (callsB n l) := by
  have hs : impl_areSome.f n = some (decide (1 ≤ n) && decide (n ≤ 12)) := by unfold impl_areSome.f; rw [within_eq]; rfl
  unfold impl_AreCalls.f callsB
  rw [hs, Option.bind_some]
  congr 3
  rw [List.not_any_eq_all_not]
  apply congrArg (fun f => l.all f)
  funext x
  rw [Bool.eq_iff_iff]
  unfold impl_AreCalls.bad
  simp only [Bool.not_eq_true', Bool.or_eq_false_iff, decide_eq_false_iff_not, Bool.and_eq_true, decide_eq_true_eq]
  omega

theorem haCalls_ev (n : Int) (l : List Pr) (h : l.length ≤ 9223372036854775807) : Ev (fun k => spec_haCalls.f k n l) (callsB n l) := by
  unfold spec_haCalls.f callsB
  refine ev_bind0 (l1In_eq n 1 12) ?_
  have bad : Ev (fun k => spec_haCalls.j0 k n l true) false := by
    refine Ev.step (f := fun _ => some false) (fun k => ?_) (Ev.now _)
    simp only [spec_haCalls.j0]
    rfl
  refine ev_if (fun c1 => ?_) (fun c1 => by rw [Bool.eq_false_iff.mpr c1, Bool.false_and]; exact bad)
  rw [c1, Bool.true_and]
  by_cases c2 : (l.length : Int) > 60
  · rw [decide_eq_true c2, decide_eq_false (show ¬ (l.length : Int) ≤ 60 by omega), Bool.false_and]
    exact bad
  · rw [decide_eq_false c2, decide_eq_true (show (l.length : Int) ≤ 60 by omega), Bool.true_and]
    refine Ev.step (f := fun k => spec_haCalls.l0 k n l (l.length : Int) 0) (fun k => ?_) ?_
    · simp only [spec_haCalls.j0]
      rfl
    · simp only [Bool.and_eq_true, decide_eq_true_eq] at c1
      have wn : wrap64 (n - 1) = n - 1 := wrap_id (by omega) (by omega)
      have q := ev_up (n := l.length) (loop := fun k i => spec_haCalls.l0 k n l (l.length : Int) (i : Int)) (r := fun i => (l.drop i).all fun x => decide (0 ≤ x.f0) && decide (x.f0 < x.f1) && decide (x.f1 < n))
        (Ev.step (f := fun _ => some true) (fun k => by simp only [spec_haCalls.l0]; rw [if_neg (by omega)]) (by simpa using Ev.now true))
        (fun i hi ih => by
          rw [List.drop_eq_getElem_cons hi, List.all_cons]
          by_cases d1 : 0 ≤ l[i].f0 ∧ l[i].f0 ≤ n - 1
          · have w1 : wrap64 (l[i].f0 + 1) = l[i].f0 + 1 := wrap_id (by omega) (by omega)
            have e1 : (decide (0 ≤ l[i].f0) && decide (l[i].f0 ≤ n - 1)) = true := by simp only [Bool.and_eq_true, decide_eq_true_eq]; exact d1
            by_cases d2 : l[i].f0 + 1 ≤ l[i].f1 ∧ l[i].f1 ≤ n - 1
            · have e2 : (decide (l[i].f0 + 1 ≤ l[i].f1) && decide (l[i].f1 ≤ n - 1)) = true := by simp only [Bool.and_eq_true, decide_eq_true_eq]; exact d2
              have e3 : (decide (0 ≤ l[i].f0) && decide (l[i].f0 < l[i].f1) && decide (l[i].f1 < n)) = true := by simp only [Bool.and_eq_true, decide_eq_true_eq]; omega
              refine Ev.step (f := fun k => spec_haCalls.l0 k n l (l.length : Int) ((i + 1 : Nat) : Int)) (fun k => ?_) (by rw [e3, Bool.true_and]; exact ih)
              simp only [spec_haCalls.l0]
              rw [if_pos (by omega), if_pos (by omega), if_pos (by omega), rdP_at hi, wn, w1, l1In_eq, Option.bind_some, if_pos e1, l1In_eq, Option.bind_some, if_pos e2, succ_cast hi (by omega)]
            · have e2 : ¬ (decide (l[i].f0 + 1 ≤ l[i].f1) && decide (l[i].f1 ≤ n - 1)) = true := by simp only [Bool.and_eq_true, decide_eq_true_eq]; exact d2
              have e3 : (decide (0 ≤ l[i].f0) && decide (l[i].f0 < l[i].f1) && decide (l[i].f1 < n)) = false := by rw [Bool.eq_false_iff]; simp only [ne_eq, Bool.and_eq_true, decide_eq_true_eq]; omega
              refine Ev.step (f := fun _ => some false) (fun k => ?_) (by rw [e3, Bool.false_and]; exact Ev.now _)
              simp only [spec_haCalls.l0]
              rw [if_pos (by omega), if_pos (by omega), if_pos (by omega), rdP_at hi, wn, w1, l1In_eq, Option.bind_some, if_pos e1, l1In_eq, Option.bind_some, if_neg e2]
          · have e1 : ¬ (decide (0 ≤ l[i].f0) && decide (l[i].f0 ≤ n - 1)) = true := by simp only [Bool.and_eq_true, decide_eq_true_eq]; exact d1
            have e3 : (decide (0 ≤ l[i].f0) && decide (l[i].f0 < l[i].f1) && decide (l[i].f1 < n)) = false := by rw [Bool.eq_false_iff]; simp only [ne_eq, Bool.and_eq_true, decide_eq_true_eq]; omega
            refine Ev.step (f := fun _ => some false) (fun k => ?_) (by rw [e3, Bool.false_and]; exact Ev.now _)
            simp only [spec_haCalls.l0]
            rw [if_pos (by omega), if_pos (by omega), if_pos (by omega), rdP_at hi, wn, l1In_eq, Option.bind_some, if_neg e1]) 0 (Nat.zero_le _)
      simpa using q
end Go.Proofs.Ytghefgfacafboaa.Plain

/- A party as a relation between people; sets of people as numbers; how many hold. Plain lemmas. No condition. -/
namespace Go.Proofs.Ytghefgfacafboaa.Plain
open Go.RowKit Go.Proofs.YtghefgfacafboaaW.PrintWords Go.Proofs.YtghefgfacafboaaW.PrintLast
set_option linter.unusedVariables false
open Q

/-- All pairs are right for n people. -/
def Right (n : Nat) (l : List Pr) : Prop := ∀ x ∈ l, 0 ≤ x.f0 ∧ x.f0 < x.f1 ∧ x.f1 < (n : Int)
theorem Right.take {n : Nat} {l : List Pr} (h : Right n l) (i : Nat) : Right n (l.take i) := fun x hx => h x (List.mem_of_mem_take hx)

/-! Sets of people as numbers. -/
/-! How many hold. -/
end Go.Proofs.Ytghefgfacafboaa.Plain

/- The law's own functions over parties, and the reference's test. No condition but lengths that fit. -/
namespace Go.Proofs.Ytghefgfacafboaa.Plain
open Go.RowKit Go.Proofs.YtghefgfacafboaaW.PrintWords Go.Proofs.YtghefgfacafboaaW.PrintLast
set_option linter.unusedVariables false
open Q

abbrev Lp := S72
/-- A pair of the law's as a pair of the program's. -/
def toP (x : Lp) : Pr := ⟨x.f0, x.f1⟩

theorem rdLp_at {l : List Lp} {i : Nat} (h : i < l.length) : rd_T72 l (i : Int) = l[i] := by
  simp [rd_T72, List.getD, h]

theorem copy_map {α β : Type} (z : β) (g : α → β) (l : List α) (i : Nat) (h : i < l.length) :
    ((l.map g).take i ++ List.replicate (l.length - i) z).set ((i : Int)).toNat (g l[i]) = (l.map g).take (i + 1) ++ List.replicate (l.length - (i + 1)) z := by
  have e : l.length - i = (l.length - (i + 1)) + 1 := by omega
  have hl : ((l.map g).take i).length = i := by simp; omega
  have hm : i < (l.map g).length := by simpa using h
  rw [Int.toNat_natCast, e, List.replicate_succ, List.set_append_right _ _ (by omega), hl, Nat.sub_self, List.set_cons_zero, List.take_succ_eq_append_getElem hm, List.append_assoc, List.getElem_map]
  rfl

theorem toPairS_ev (l : List Lp) (h : l.length ≤ 17592186044416) : Ev (fun k => laws_toPairS.f k l) (l.map toP) := by
  refine Ev.congr (f := fun k => laws_toPairS.l0 k l (List.replicate l.length z70) 0) (fun k => ?_) ?_
  · unfold laws_toPairS.f
    rw [if_pos (by omega), if_pos (by omega), Int.toNat_natCast]
  · have q := ev_up (n := l.length) (loop := fun k i => laws_toPairS.l0 k l ((l.map toP).take i ++ List.replicate (l.length - i) z70) (i : Int)) (r := fun _ => l.map toP)
      (Ev.step (f := fun _ => some (l.map toP)) (fun k => by
        simp only [laws_toPairS.l0]
        rw [if_neg (by omega), Nat.sub_self, List.replicate_zero, List.append_nil, List.take_of_length_le (by simp)]) (Ev.now _))
      (fun i hi ih => Ev.step (f := fun k => laws_toPairS.l0 k l ((l.map toP).take (i + 1) ++ List.replicate (l.length - (i + 1)) z70) ((i + 1 : Nat) : Int)) (fun k => by
        simp only [laws_toPairS.l0]
        rw [if_pos (by omega), if_pos (by omega), rdLp_at hi]
        show (if (i : Int) < _ then laws_toPairS.l0 k l (List.set _ _ (toP l[i])) _ else none) = _
        rw [if_pos (by simp; omega), copy_map _ toP l i hi, succ_cast hi (by omega)]) ih) 0 (Nat.zero_le _)
    simpa using q

theorem eqPair_eq (x : Pr) : laws_eqPair.f x.f0 x.f1 x.f0 x.f1 = some true := by
  unfold laws_eqPair.f
  rw [if_pos rfl, if_pos rfl]

theorem eqPairS_ev (l : List Pr) (h : l.length ≤ 9223372036854775807) : Ev (fun k => laws_eqPairS.f k l l) true := by
  refine Ev.congr (f := fun k => laws_eqPairS.l0 k l l 0) (fun k => ?_) ?_
  · unfold laws_eqPairS.f
    rw [if_pos rfl]
  · exact ev_up (n := l.length) (loop := fun k i => laws_eqPairS.l0 k l l (i : Int)) (r := fun _ => true)
      (Ev.step (f := fun _ => some true) (fun k => by simp [laws_eqPairS.l0]) (Ev.now true))
      (fun i hi ih => Ev.step (f := fun k => laws_eqPairS.l0 k l l ((i + 1 : Nat) : Int)) (fun k => by
        simp only [laws_eqPairS.l0]
        rw [if_pos (by omega), if_pos (by omega), if_pos (by omega), rdP_at hi, eqPair_eq, Option.bind_some, if_pos rfl, succ_cast hi h]) ih) 0 (Nat.zero_le _)

end Go.Proofs.Ytghefgfacafboaa.Plain
/- The program's AreCalls returns what the reference's returns, for all arguments. No condition. -/
namespace Go.Proofs.Ytghefgfacafboaa.Pure
open Go.RowKit Go.Proofs.YtghefgfacafboaaW.PrintWords Go.Proofs.YtghefgfacafboaaW.PrintLast
set_option linter.unusedVariables false
open Q Plain

theorem szPairS_eq (l : List Lp) (a : Int) (h0 : 0 ≤ a) (h1 : a ≤ 1048576) (h : l.length ≤ 9223372036854775807) : laws_szPairS.f l a = some (if a < (l.length : Int) then -1 else a - l.length) := by
  unfold laws_szPairS.f
  rw [wrap_id (by omega) (by omega)]
  by_cases hl : a < (l.length : Int)
  · rw [if_pos (by omega), if_pos hl]
  · rw [if_neg (by omega), if_neg hl]

theorem FnExactAreCalls : laws_FnExactAreCalls.Pure := by
  intro n l _ hl _
  refine Ev.rounds (g := fun k => laws_FnExactAreCalls.f k n l) ?_
  unfold laws_FnExactAreCalls.f
  refine ev_bind0 (szPairS_eq l 1048576 (by omega) (by omega) hl) ?_
  refine ev_if (fun _ => Ev.now _) (fun hb => ?_)
  have hs : l.length ≤ 1048576 := by
    by_cases h : (1048576 : Int) < (l.length : Int)
    · rw [if_pos h] at hb; omega
    · omega
  have hT := toPairS_ev l (by omega)
  have hl2 : (l.map toP).length ≤ 9223372036854775807 := by rw [List.length_map]; exact hl
  have hS : Ev (fun k => spec_AreCalls.f k n (l.map toP)) (callsB n (l.map toP)) := Ev.bind (f := fun _ t => some t) (haCalls_ev n _ hl2) (Ev.now _)
  refine Ev.bind hT ?_
  refine Ev.bind hS ?_
  refine Ev.bind hT ?_
  refine ev_bind0 (areCalls_eq n _) ?_
  refine ev_if (fun h => absurd h (by simp)) (fun _ => ?_)
  refine Ev.bind hT ?_
  refine Ev.bind (eqPairS_ev _ hl2) ?_
  exact ev_if (fun _ => Ev.now _) (fun h => absurd rfl h)
end Go.Proofs.Ytghefgfacafboaa.Pure
