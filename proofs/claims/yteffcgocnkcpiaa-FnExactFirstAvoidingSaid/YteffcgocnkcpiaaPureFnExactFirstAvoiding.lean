import Derived.Test.YteffcgocnkcpiaaQ0
import Derived.Test.YteffcgocnkcpiaaQ1
import Derived.Test.YteffcgocnkcpiaaQ7
import Derived.Test.YteffcgocnkcpiaaQ9
import Derived.Test.YteffcgocnkcpiaaQ10
import Derived.Test.YteffcgocnkcpiaaQ15
import Derived.Test.YteffcgocnkcpiaaQ25
/- Plain lemmas over rounds, lists and whole numbers, for the pure statements of this seat. No condition. -/
namespace Go.Proofs.Yteffcgocnkcpiaa.Plain
open Go.RowKit Go.Proofs.YteffcgocnkcpiaaW.PrintWords Go.Proofs.YteffcgocnkcpiaaW.PrintLast
set_option linter.unusedVariables false

theorem wrap_id {x : Int} (h0 : -9223372036854775808 ≤ x) (h1 : x ≤ 9223372036854775807) : wrap64 x = x := by
  unfold wrap64
  omega

theorem rd_at {l : List Int} {i : Nat} (h : i < l.length) : rd l (i : Int) = l[i] := by
  simp [rd, List.getD, h]

theorem ev_some {α : Type} {g : Nat → Option α} {r : α} (h : ∀ k, g k = some r) : Ev g r := ⟨0, fun k _ => h k⟩

theorem ev_bind0 {α β : Type} {g : Option α} {f : Nat → α → Option β} {a : α} {r : β} (h : g = some a) (k : Ev (fun n => f n a) r) : Ev (fun n => g.bind (f n)) r := by
  obtain ⟨K, hK⟩ := k
  refine ⟨K, fun n hn => ?_⟩
  show g.bind (f n) = some r
  rw [h]
  exact hK n hn

theorem ev_if {α : Type} {c : Prop} [Decidable c] {f g : Nat → Option α} {r : α} (hf : c → Ev f r) (hg : ¬ c → Ev g r) : Ev (fun n => if c then f n else g n) r := by
  by_cases h : c
  · obtain ⟨K, hK⟩ := hf h
    exact ⟨K, fun n hn => (if_pos h).trans (hK n hn)⟩
  · obtain ⟨K, hK⟩ := hg h
    exact ⟨K, fun n hn => (if_neg h).trans (hK n hn)⟩

/-- A loop over an index, from any index on, in one shape. -/
theorem ev_up {α : Type} {n : Nat} {loop : Nat → Nat → Option α} {r : Nat → α} (hend : Ev (fun k => loop k n) (r n)) (hstep : ∀ i, i < n → (Ev (fun k => loop k (i + 1)) (r (i + 1)) → Ev (fun k => loop k i) (r i))) :
    ∀ i, i ≤ n → Ev (fun k => loop k i) (r i) := by
  intro i hi
  have : ∀ d i, i ≤ n → n - i = d → Ev (fun k => loop k i) (r i) := by
    intro d
    induction d with
    | zero =>
      intro i hi hd
      have e : i = n := by omega
      rw [e]; exact hend
    | succ d ih =>
      intro i hi hd
      exact hstep i (by omega) (ih (i + 1) (by omega) (by omega))
  exact this (n - i) i hi rfl
theorem succ_cast {i n : Nat} (h : i < n) (hn : n ≤ 9223372036854775807) : wrap64 ((i : Int) + 1) = ((i + 1 : Nat) : Int) := by
  rw [wrap_id (by omega) (by omega)]; rfl
end Go.Proofs.Yteffcgocnkcpiaa.Plain

/- The law's own functions over lists of whole numbers: copies, equality, bounds. No condition but lengths that fit. -/
namespace Go.Proofs.Yteffcgocnkcpiaa.Plain
open Go.RowKit Go.Proofs.YteffcgocnkcpiaaW.PrintWords Go.Proofs.YteffcgocnkcpiaaW.PrintLast
set_option linter.unusedVariables false
open Q

theorem eqIntS_ev (l : List Int) (h : l.length ≤ 9223372036854775807) : Ev (fun k => laws_eqIntS.f k l l) true := by
  refine Ev.congr (f := fun k => laws_eqIntS.l0 k l l 0) (fun k => ?_) ?_
  · unfold laws_eqIntS.f
    rw [if_pos rfl]
  · exact ev_up (n := l.length) (loop := fun k i => laws_eqIntS.l0 k l l (i : Int)) (r := fun _ => true)
      (Ev.step (f := fun _ => some true) (fun k => by simp [laws_eqIntS.l0]) (Ev.now true))
      (fun i hi ih => Ev.step (f := fun k => laws_eqIntS.l0 k l l ((i + 1 : Nat) : Int)) (fun k => by
        simp only [laws_eqIntS.l0]
        rw [if_pos (by omega), if_pos (by omega), if_pos (by omega), if_pos trivial, succ_cast hi h]) ih) 0 (Nat.zero_le _)

theorem l1In_eq (a b c : Int) : spec_l1In.f a b c = some (decide (b ≤ a) && decide (a ≤ c)) := by
  unfold spec_l1In.f
  by_cases h : b ≤ a <;> simp [h]

theorem within_eq (a b c : Int) : impl_within.f a b c = some (decide (b ≤ a) && decide (a ≤ c)) := by
  unfold impl_within.f
  by_cases h : b ≤ a <;> simp [h]

end Go.Proofs.Yteffcgocnkcpiaa.Plain

/- Paintings: both sides' tests, and the law's own functions over paintings. No condition but lengths that fit. -/
namespace Go.Proofs.Yteffcgocnkcpiaa.Plain
open Go.RowKit Go.Proofs.YteffcgocnkcpiaaW.PrintWords Go.Proofs.YteffcgocnkcpiaaW.PrintLast
set_option linter.unusedVariables false
open Q

theorem eqPainting_ev (n c : Int) (l : List Int) (h : l.length ≤ 9223372036854775807) : Ev (fun k => laws_eqPainting.f k n c l n c l) true := by
  refine Ev.congr (f := fun k => (laws_eqIntS.f k l l).bind fun t => if t = true then some true else some false) (fun k => ?_) ?_
  · unfold laws_eqPainting.f
    rw [if_pos rfl, if_pos rfl]
  · exact Ev.bind (f := fun _ t => if t = true then some true else some false) (eqIntS_ev l h) (ev_some (fun _ => rfl))

theorem pairs_of {n : Int} (h0 : 0 ≤ n) (h1 : n ≤ 8) : wrap64 (Int.tdiv (wrap64 (n * (wrap64 (n - 1)))) 2) = n * (n - 1) / 2 := by
  have : n = 0 ∨ n = 1 ∨ n = 2 ∨ n = 3 ∨ n = 4 ∨ n = 5 ∨ n = 6 ∨ n = 7 ∨ n = 8 := by omega
  rcases this with rfl | rfl | rfl | rfl | rfl | rfl | rfl | rfl | rfl <;> decide +kernel

theorem choose_two {n : Int} (h0 : 0 ≤ n) (h1 : n ≤ 8) : Ev (fun k => impl_choose.f k n 2) (n * (n - 1) / 2) := by
  refine Ev.of (fun k => impl_choose.mono n 2 k) (k := 10) ?_
  have : n = 0 ∨ n = 1 ∨ n = 2 ∨ n = 3 ∨ n = 4 ∨ n = 5 ∨ n = 6 ∨ n = 7 ∨ n = 8 := by omega
  rcases this with rfl | rfl | rfl | rfl | rfl | rfl | rfl | rfl | rfl <;> decide +kernel

end Go.Proofs.Yteffcgocnkcpiaa.Plain

/- The place of a pair among the pairs of a painting, and its colour, on both sides. No condition but lengths that fit. -/
namespace Go.Proofs.Yteffcgocnkcpiaa.Plain
open Go.RowKit Go.Proofs.YteffcgocnkcpiaaW.PrintWords Go.Proofs.YteffcgocnkcpiaaW.PrintLast
set_option linter.unusedVariables false
open Q

end Go.Proofs.Yteffcgocnkcpiaa.Plain

/- Parties: both sides' tests, and the law's own functions over parties. No condition but lengths that fit. -/
namespace Go.Proofs.Yteffcgocnkcpiaa.Plain
open Go.RowKit Go.Proofs.YteffcgocnkcpiaaW.PrintWords Go.Proofs.YteffcgocnkcpiaaW.PrintLast
set_option linter.unusedVariables false
open Q

/-! What a party is, in words of numbers. -/
end Go.Proofs.Yteffcgocnkcpiaa.Plain

/- The laws' marks: written into a list and found again. No condition but a length that fits. -/
namespace Go.Proofs.Yteffcgocnkcpiaa.Plain
open Go.RowKit Go.Proofs.YteffcgocnkcpiaaW.PrintWords Go.Proofs.YteffcgocnkcpiaaW.PrintLast
set_option linter.unusedVariables false
open Q

/-- The marks of n numbers from v on. -/
def marksI (v : Int) (n : Nat) : List Int := (List.range n).map fun i : Nat => v + (i : Int)
theorem marksI_length (v : Int) (n : Nat) : (marksI v n).length = n := by simp [marksI]
theorem marksI_get {v : Int} {n i : Nat} (h : i < (marksI v n).length) : (marksI v n)[i] = v + (i : Int) := by simp [marksI]

theorem marksI_step (v : Int) (l : List Int) {i : Nat} (hi : i < l.length) : (marksI v i ++ l.drop i).set i (v + (i : Int)) = marksI v (i + 1) ++ l.drop (i + 1) := by
  apply List.ext_getElem
  · simp [marksI_length]; omega
  · intro j h1 h2
    rw [List.getElem_set]
    by_cases e : i = j
    · subst e
      rw [if_pos rfl, List.getElem_append_left (by rw [marksI_length]; omega), marksI_get]
    · rw [if_neg e]
      by_cases c : j < i
      · rw [List.getElem_append_left (by rw [marksI_length]; omega), List.getElem_append_left (by rw [marksI_length]; omega), marksI_get, marksI_get]
      · rw [List.getElem_append_right (by rw [marksI_length]; omega), List.getElem_append_right (by rw [marksI_length]; omega), List.getElem_drop, List.getElem_drop]
        congr 1
        rw [marksI_length, marksI_length]
        omega

theorem markIntS_ev (l : List Int) (v : Int) (h : l.length ≤ 1152921504606846976) (h0 : 0 ≤ v) (h1 : v ≤ 1152921504606846976) : Ev (fun k => laws_markIntS.f k l v) (v + (l.length : Int), marksI v l.length) := by
  have q := ev_up (n := l.length) (loop := fun k i => laws_markIntS.l0 k (marksI v i ++ l.drop i) (v + (i : Int)) (i : Int)) (r := fun _ => (v + (l.length : Int), marksI v l.length))
    (by
      refine Ev.step (f := fun _ => some (v + (l.length : Int), marksI v l.length)) (fun k => ?_) (Ev.now _)
      simp only [laws_markIntS.l0]
      rw [List.drop_length, List.append_nil, if_neg (by rw [marksI_length]; omega)])
    (fun i hi ih => by
      have hlen : (marksI v i ++ l.drop i).length = l.length := by rw [List.length_append, marksI_length, List.length_drop]; omega
      have w1 : wrap64 (v + (i : Int) + 1) = v + ((i + 1 : Nat) : Int) := by rw [wrap_id (by omega) (by omega)]; omega
      refine Ev.step (f := fun k => laws_markIntS.l0 k (marksI v (i + 1) ++ l.drop (i + 1)) (v + ((i + 1 : Nat) : Int)) ((i + 1 : Nat) : Int)) (fun k => ?_) ih
      simp only [laws_markIntS.l0]
      rw [if_pos (by rw [hlen]; omega), if_pos (by omega), w1, succ_cast hi (by omega), Int.toNat_natCast, marksI_step v l hi]) 0 (Nat.zero_le _)
  have e : marksI v 0 ++ l.drop 0 = l := by simp [marksI]
  rw [e] at q
  simpa [laws_markIntS.f] using q

theorem heldIntS_ev (n : Nat) (v : Int) (h : n ≤ 1152921504606846976) (h0 : 0 ≤ v) (h1 : v ≤ 1152921504606846976) : Ev (fun k => laws_heldIntS.f k (marksI v n) v) (v + (n : Int)) := by
  have hl := marksI_length v n
  have q := ev_up (n := n) (loop := fun k i => laws_heldIntS.l0 k (marksI v n) (v + (i : Int)) (i : Int)) (r := fun _ => v + (n : Int))
    (Ev.step (f := fun _ => some (v + (n : Int))) (fun k => by simp only [laws_heldIntS.l0]; rw [if_neg (by rw [hl]; omega)]) (Ev.now _))
    (fun i hi ih => by
      have w1 : wrap64 (v + (i : Int) + 1) = v + ((i + 1 : Nat) : Int) := by rw [wrap_id (by omega) (by omega)]; omega
      refine Ev.step (f := fun k => laws_heldIntS.l0 k (marksI v n) (v + ((i + 1 : Nat) : Int)) ((i + 1 : Nat) : Int)) (fun k => ?_) ih
      simp only [laws_heldIntS.l0]
      rw [if_pos (by rw [hl]; omega), if_pos (by omega), rd_at (by rw [hl]; exact hi), marksI_get, if_pos rfl, w1, succ_cast hi (by omega)]) 0 (Nat.zero_le _)
  simpa [laws_heldIntS.f] using q

theorem markPainting_ev (n c : Int) (l : List Int) (h : l.length ≤ 1152921504606846976) : Ev (fun k => laws_markPainting.f k n c l 1) (1 + (l.length : Int), marksI 1 l.length) := by
  unfold laws_markPainting.f
  exact Ev.bind (f := fun _ bt => some (bt.1, bt.2)) (markIntS_ev l 1 h (by omega) (by omega)) (Ev.now _)

theorem heldPainting_ev (n c : Int) (m : Nat) (h : m ≤ 1152921504606846976) : Ev (fun k => laws_heldPainting.f k n c (marksI 1 m) 1) (1 + (m : Int)) := by
  unfold laws_heldPainting.f
  refine Ev.bind (heldIntS_ev m 1 h (by omega) (by omega)) ?_
  exact ev_if (fun q => by omega) (fun _ => Ev.now _)

end Go.Proofs.Yteffcgocnkcpiaa.Plain

/- The paintings without a triple of one colour, in order, on both sides. No condition but that there are at most eight people. -/
namespace Go.Proofs.Yteffcgocnkcpiaa.Plain
open Go.RowKit Go.Proofs.YteffcgocnkcpiaaW.PrintWords Go.Proofs.YteffcgocnkcpiaaW.PrintLast
set_option linter.unusedVariables false
open Q

/-- How many pairs n people make. -/
def tot (n : Nat) : Nat := n * (n - 1) / 2
/-- The place of a pair (the first is the lesser). -/
def pl (n a b : Nat) : Nat := a * (2 * n - a - 1) / 2 + (b - a - 1)
theorem pl_all : ∀ n : Fin 9, ∀ a : Fin 9, ∀ b : Fin 9, a.val < b.val → b.val < n.val →
    spec_ptAt.f (n.val : Int) (a.val : Int) (b.val : Int) = some ((pl n.val a.val b.val : Nat) : Int) ∧ impl_place.f (n.val : Int) (a.val : Int) (b.val : Int) = some ((pl n.val a.val b.val : Nat) : Int) ∧ pl n.val a.val b.val < tot n.val := by decide +kernel
theorem pl_at {n a b : Nat} (hn : n ≤ 8) (h1 : a < b) (h2 : b < n) : spec_ptAt.f (n : Int) (a : Int) (b : Int) = some ((pl n a b : Nat) : Int) ∧ impl_place.f (n : Int) (a : Int) (b : Int) = some ((pl n a b : Nat) : Int) ∧ pl n a b < tot n :=
  pl_all ⟨n, by omega⟩ ⟨a, by omega⟩ ⟨b, by omega⟩ h1 h2
theorem pl_next {n a b : Nat} (h : a < b) : pl n a (b + 1) = pl n a b + 1 := by unfold pl; omega
theorem pl_row_all : ∀ n : Fin 9, ∀ a : Fin 9, a.val + 1 < n.val → pl n.val a.val n.val = pl n.val (a.val + 1) (a.val + 2) := by decide +kernel
theorem pl_row {n a : Nat} (hn : n ≤ 8) (h : a + 1 < n) : pl n a n = pl n (a + 1) (a + 2) := pl_row_all ⟨n, by omega⟩ ⟨a, by omega⟩ h
theorem pl_end_all : ∀ n : Fin 9, 1 ≤ n.val → pl n.val (n.val - 1) n.val = tot n.val := by decide +kernel
theorem pl_end {n : Nat} (hn : n ≤ 8) (h : 1 ≤ n) : pl n (n - 1) n = tot n := pl_end_all ⟨n, by omega⟩ h
theorem pl_lt_all : ∀ n : Fin 9, ∀ x : Fin 9, ∀ a : Fin 9, ∀ b : Fin 9, x.val < a.val → a.val < b.val → b.val < n.val → pl n.val x.val a.val < pl n.val a.val b.val ∧ pl n.val x.val b.val < pl n.val a.val b.val := by decide +kernel
theorem pl_lt {n x a b : Nat} (hn : n ≤ 8) (h0 : x < a) (h1 : a < b) (h2 : b < n) : pl n x a < pl n a b ∧ pl n x b < pl n a b := pl_lt_all ⟨n, by omega⟩ ⟨x, by omega⟩ ⟨a, by omega⟩ ⟨b, by omega⟩ h0 h1 h2

theorem rd_take {X c : List Int} {i : Nat} (h : X.take c.length = c) (hi : i < c.length) : rd X (i : Int) = rd c (i : Int) := by
  have e : (X.take c.length)[i]? = X[i]? := by rw [List.getElem?_take]; simp [hi]
  rw [h] at e
  simp [rd, List.getD, e]
theorem of_at {n : Nat} (hn : n ≤ 8) (m : Int) {X : List Int} (hX : X.length = tot n) {x a : Nat} (h1 : x < a) (h2 : a < n) : impl_Painting_of.f (n : Int) m X (x : Int) (a : Int) = some (rd X ((pl n x a : Nat) : Int)) := by
  obtain ⟨_, h, hl⟩ := pl_at hn h1 h2
  unfold impl_Painting_of.f
  rw [h, Option.bind_some, if_pos (by omega), if_pos (by rw [hX]; omega)]
theorem ptOf_at {n : Nat} (hn : n ≤ 8) (m : Int) {X : List Int} (hX : X.length = tot n) {x a : Nat} (h1 : x < a) (h2 : a < n) : spec_ptOf.f (n : Int) m X (x : Int) (a : Int) = some (rd X ((pl n x a : Nat) : Int)) := by
  obtain ⟨h, _, hl⟩ := pl_at hn h1 h2
  unfold spec_ptOf.f
  rw [h, Option.bind_some, if_pos (by omega), if_pos (by rw [hX]; omega)]

/-- Does the colour q of the pair a, b close a triple of one colour with a person before a. -/
def clash (n : Nat) (c : List Int) (a b : Nat) (q : Int) : Bool := (List.range a).any fun x => decide (rd c ((pl n x a : Nat) : Int) = q) && decide (rd c ((pl n x b : Nat) : Int) = q)
theorem any_step (f : Nat → Bool) {m i : Nat} (h : i < m) : ((List.range m).drop i).any f = (f i || ((List.range m).drop (i + 1)).any f) := by
  rw [List.drop_eq_getElem_cons (by simpa using h), List.any_cons, List.getElem_range]
theorem any_end (f : Nat → Bool) {m i : Nat} (h : m ≤ i) : ((List.range m).drop i).any f = false := by
  rw [List.drop_of_length_le (by simpa using h)]; rfl
theorem clash_ev {n : Nat} (hn : n ≤ 8) (m : Int) {X c : List Int} (hX : X.length = tot n) (hc : X.take c.length = c) {a b : Nat} (hab : a < b) (hb : b < n) (hp : c.length = pl n a b) (q : Int) : Ev (fun k => impl_avoiding.l1 k (n : Int) m X (a : Int) (b : Int) q 0 false) (clash n c a b q) := by
  have loop : ∀ e i, a - i = e → i ≤ a → ∀ cl : Bool, Ev (fun k => impl_avoiding.l1 k (n : Int) m X (a : Int) (b : Int) q (i : Int) cl) (cl || ((List.range a).drop i).any fun x => decide (rd c ((pl n x a : Nat) : Int) = q) && decide (rd c ((pl n x b : Nat) : Int) = q)) := by
    intro e
    induction e with
    | zero =>
      intro i he hi cl
      obtain rfl : i = a := by omega
      rw [any_end _ (Nat.le_refl _), Bool.or_false]
      exact Ev.step (f := fun _ => some cl) (fun k => by simp only [impl_avoiding.l1]; rw [if_neg (by omega)]) (Ev.now _)
    | succ e ih =>
      intro i he hi cl
      have hia : i < a := by omega
      have h := ih (i + 1) (by omega) (by omega)
      rw [any_step _ hia]
      obtain ⟨l1, l2⟩ := pl_lt hn hia hab hb
      have r1 : rd X ((pl n i a : Nat) : Int) = rd c ((pl n i a : Nat) : Int) := rd_take hc (by omega)
      have r2 : rd X ((pl n i b : Nat) : Int) = rd c ((pl n i b : Nat) : Int) := rd_take hc (by omega)
      refine Ev.step (f := fun k => if cl = true then impl_avoiding.l1 k (n : Int) m X (a : Int) (b : Int) q ((i + 1 : Nat) : Int) true else (if rd c ((pl n i a : Nat) : Int) = q then impl_avoiding.l1 k (n : Int) m X (a : Int) (b : Int) q ((i + 1 : Nat) : Int) (rd c ((pl n i b : Nat) : Int) == q) else impl_avoiding.l1 k (n : Int) m X (a : Int) (b : Int) q ((i + 1 : Nat) : Int) false)) (fun k => ?_) ?_
      · simp only [impl_avoiding.l1]
        rw [if_pos (by omega), of_at hn m hX hia (by omega), of_at hn m hX (show i < b by omega) hb, Option.bind_some, Option.bind_some, r1, r2, succ_cast hia (by omega)]
      · cases cl with
        | true =>
          refine ev_if (fun _ => ?_) (fun h => absurd rfl h)
          simpa using h true
        | false =>
          refine ev_if (fun h => by simp at h) (fun _ => ?_)
          by_cases c1 : rd c ((pl n i a : Nat) : Int) = q
          · refine ev_if (fun _ => ?_) (fun h => absurd c1 h)
            have := h (rd c ((pl n i b : Nat) : Int) == q)
            rw [Bool.false_or, decide_eq_true c1, Bool.true_and]
            exact this
          · refine ev_if (fun h => absurd h c1) (fun _ => ?_)
            have := h false
            rw [Bool.false_or, decide_eq_false c1, Bool.false_and]
            exact this
  have := loop a 0 (by omega) (by omega) false
  simpa [clash] using this
theorem set_take {X c : List Int} {N : Nat} (hX : X.length = N) (hc : X.take c.length = c) (hp : c.length < N) (q : Int) : (X.set c.length q).take (c ++ [q]).length = c ++ [q] := by
  have hl : c.length < X.length := by omega
  rw [List.length_append, List.length_singleton, List.take_add_one, List.take_set_of_le (Nat.le_refl _), hc, List.getElem?_set_self hl]
  rfl
theorem free_ev {n : Nat} (hn : n ≤ 8) (m : Int) {X c : List Int} (hX : X.length = tot n) (hc : X.take c.length = c) {a b : Nat} (hab : a < b) (hb : b < n) (hp : c.length = pl n a b) (q : Int) : Ev (fun k => spec_ptFree.f k (n : Int) m (X.set c.length q) (a : Int) (b : Int)) (!clash n c a b q) := by
  obtain ⟨_, _, hN⟩ := pl_at hn hab hb
  have hY : (X.set c.length q).length = tot n := by rw [List.length_set]; exact hX
  have hcY := set_take hX hc (by omega) q
  have rq : rd (X.set c.length q) ((pl n a b : Nat) : Int) = q := by
    rw [rd_take hcY (by rw [List.length_append, List.length_singleton]; omega), ← hp, rd_at (by simp)]; simp
  have rc : ∀ i, i < c.length → rd (X.set c.length q) (i : Int) = rd c (i : Int) := fun i hi => by
    rw [rd_take hcY (by rw [List.length_append, List.length_singleton]; omega), rd_at (by rw [List.length_append]; omega), rd_at hi, List.getElem_append_left hi]
  have loop : ∀ e i, a - i = e → i ≤ a → Ev (fun k => spec_ptFree.l0 k (a : Int) (b : Int) (i : Int) (n : Int) m (X.set c.length q)) (!(((List.range a).drop i).any fun x => decide (rd c ((pl n x a : Nat) : Int) = q) && decide (rd c ((pl n x b : Nat) : Int) = q))) := by
    intro e
    induction e with
    | zero =>
      intro i he hi
      obtain rfl : i = a := by omega
      rw [any_end _ (Nat.le_refl _)]
      exact Ev.step (f := fun _ => some true) (fun k => by simp only [spec_ptFree.l0]; rw [if_neg (by omega)]) (Ev.now _)
    | succ e ih =>
      intro i he hi
      have hia : i < a := by omega
      have h := ih (i + 1) (by omega) (by omega)
      rw [any_step _ hia]
      obtain ⟨l1, l2⟩ := pl_lt hn hia hab hb
      refine Ev.step (f := fun k => if rd c ((pl n i a : Nat) : Int) = q then (if rd c ((pl n i b : Nat) : Int) = q then some false else spec_ptFree.l0 k (a : Int) (b : Int) ((i + 1 : Nat) : Int) (n : Int) m (X.set c.length q)) else spec_ptFree.l0 k (a : Int) (b : Int) ((i + 1 : Nat) : Int) (n : Int) m (X.set c.length q)) (fun k => ?_) ?_
      · simp only [spec_ptFree.l0]
        rw [if_pos (by omega), ptOf_at hn m hY hia (by omega), ptOf_at hn m hY hab hb, ptOf_at hn m hY (show i < b by omega) hb]
        simp only [Option.bind_some]
        rw [rc (pl n i a) (by omega), rc (pl n i b) (by omega), rq, succ_cast hia (by omega)]
      · by_cases c1 : rd c ((pl n i a : Nat) : Int) = q
        · refine ev_if (fun _ => ?_) (fun h => absurd c1 h)
          by_cases c2 : rd c ((pl n i b : Nat) : Int) = q
          · refine ev_if (fun _ => ?_) (fun h => absurd c2 h)
            rw [decide_eq_true c1, decide_eq_true c2]
            exact Ev.now _
          · refine ev_if (fun h => absurd h c2) (fun _ => ?_)
            rw [decide_eq_false c2, Bool.and_false, Bool.false_or]
            exact h
        · refine ev_if (fun h => absurd h c1) (fun _ => ?_)
          rw [decide_eq_false c1, Bool.false_and, Bool.false_or]
          exact h
  have := loop a 0 (by omega) (by omega)
  unfold spec_ptFree.f
  simpa [clash] using this
end Go.Proofs.Yteffcgocnkcpiaa.Plain

/- The paintings without a triple of one colour, one by one: the program hands each to a function, the reference counts them and keeps the first. No condition but that there are at most eight people. -/
namespace Go.Proofs.Yteffcgocnkcpiaa.Plain
open Go.RowKit Go.Proofs.YteffcgocnkcpiaaW.PrintWords Go.Proofs.YteffcgocnkcpiaaW.PrintLast
set_option linter.unusedVariables false
open Q

/-- All paintings that begin with the colours c, the next pair being a, b. -/
def sols (n m : Nat) : Nat → Nat → Nat → List Int → List (List Int)
  | 0, _, _, _ => []
  | d + 1, a, b, c => if n ≤ a + 1 then [c] else if b = n then sols n m d (a + 1) (a + 2) c else (List.range m).flatMap fun (q : Nat) => if clash n c a b (q : Int) = true then [] else sols n m d a (b + 1) (c ++ [(q : Int)])
/-- Those whose next colour is not below a colour. -/
def solsQ (n m d a b : Nat) (c : List Int) (q0 : Nat) : List (List Int) := ((List.range m).drop q0).flatMap fun (q : Nat) => if clash n c a b (q : Int) = true then [] else sols n m d a (b + 1) (c ++ [(q : Int)])
theorem solsQ_end {n m d a b : Nat} {c : List Int} : solsQ n m d a b c m = [] := by unfold solsQ; rw [List.drop_of_length_le (by simp)]; rfl
theorem solsQ_step {n m d a b : Nat} {c : List Int} {q : Nat} (h : q < m) : solsQ n m d a b c q = (if clash n c a b (q : Int) = true then [] else sols n m d a (b + 1) (c ++ [(q : Int)])) ++ solsQ n m d a b c (q + 1) := by
  unfold solsQ
  rw [List.drop_eq_getElem_cons (by simpa using h), List.flatMap_cons, List.getElem_range]
theorem sols_leaf {n m d a b : Nat} {c : List Int} (h : n ≤ a + 1) : sols n m (d + 1) a b c = [c] := by simp only [sols]; rw [if_pos h]
theorem sols_row {n m d a : Nat} {c : List Int} (h : ¬ n ≤ a + 1) : sols n m (d + 1) a n c = sols n m d (a + 1) (a + 2) c := by simp only [sols]; rw [if_neg h]; simp
theorem sols_pair {n m d a b : Nat} {c : List Int} (h : ¬ n ≤ a + 1) (hb : b < n) : sols n m (d + 1) a b c = solsQ n m d a b c 0 := by
  simp only [sols]; rw [if_neg h, if_neg (by omega)]; rfl
/-- The colours up to a pair. -/
def At (n a b : Nat) (c : List Int) : Prop := (n ≤ a + 1 ∧ a ≤ n ∧ c.length = tot n) ∨ (a + 1 < n ∧ a < b ∧ b ≤ n ∧ c.length = pl n a b)
def mu (n a b : Nat) : Nat := (n - a) * (n + 1) + (n - b)
theorem at_next {n a b : Nat} {c : List Int} (h : At n a b c) (h1 : ¬ n ≤ a + 1) (hb : b < n) (q : Int) : At n a (b + 1) (c ++ [q]) := by
  rcases h with h | h
  · omega
  · refine Or.inr ⟨h.1, by omega, by omega, ?_⟩
    rw [List.length_append, List.length_singleton, h.2.2.2, pl_next h.2.1]
theorem at_row {n a : Nat} {c : List Int} (hn : n ≤ 8) (h : At n a n c) (h1 : ¬ n ≤ a + 1) : At n (a + 1) (a + 2) c := by
  rcases h with h | h
  · omega
  · by_cases g : n ≤ a + 2
    · refine Or.inl ⟨g, by omega, ?_⟩
      obtain rfl : n = a + 2 := by omega
      rw [h.2.2.2, pl_row hn h.1]
      exact pl_end hn (by omega)
    · exact Or.inr ⟨by omega, by omega, by omega, by rw [h.2.2.2, pl_row hn h.1]⟩
theorem mu_next {n a b : Nat} (hb : b < n) : mu n a (b + 1) < mu n a b := by unfold mu; omega
theorem mu_row {n a b : Nat} (h1 : ¬ n ≤ a + 1) : mu n (a + 1) (a + 2) < mu n a b := by
  unfold mu
  obtain ⟨t, ht⟩ : ∃ t, n - a = t + 1 := ⟨n - a - 1, by omega⟩
  rw [show n - (a + 1) = t by omega, ht, Nat.succ_mul]
  omega
theorem tot_le : ∀ n : Fin 9, tot n.val ≤ 28 := by decide +kernel
theorem leaf_eq {n : Nat} {X c : List Int} (hX : X.length = tot n) (hc : X.take c.length = c) (hl : c.length = tot n) : X = c := by
  rw [← hc, hl, ← hX, List.take_length]
theorem clone_eq {l : List Int} (h : l.length ≤ 1000) : slices_Clone_int_int.f l = some l := by
  unfold slices_Clone_int_int.f
  rw [if_pos (by omega)]
theorem ptOwn_eq (n m : Int) {l : List Int} (h : l.length ≤ 1000) : spec_ptOwn.f n m l = some (n, m, l) := by
  unfold spec_ptOwn.f spec_l1Own.f
  simp [show l.length < 17592186044416 by omega]
theorem leaf_cond {n a : Nat} (hn : n ≤ 8) : wrap64 ((n : Int) - 1) ≤ (a : Int) ↔ n ≤ a + 1 := by
  rw [wrap_id (by omega) (by omega)]; omega

/-- A function put to the paintings one after the other, till it says no. -/
def runE {σ : Type} (e : σ → List Int → σ × Bool) : List (List Int) → σ → Bool × σ
  | [], s => (true, s)
  | l :: t, s => if (e s l).2 = true then runE e t (e s l).1 else (false, (e s l).1)
theorem runE_cons {σ : Type} (e : σ → List Int → σ × Bool) (l : List Int) (t : List (List Int)) (s : σ) : runE e (l :: t) s = if (e s l).2 = true then runE e t (e s l).1 else (false, (e s l).1) := rfl
theorem runE_append {σ : Type} (e : σ → List Int → σ × Bool) (l t : List (List Int)) (s : σ) : runE e (l ++ t) s = if (runE e l s).1 = true then runE e t (runE e l s).2 else runE e l s := by
  induction l generalizing s with
  | nil => simp [runE]
  | cons x l ih =>
    rw [List.cons_append, runE_cons, runE_cons]
    by_cases c : (e s x).2 = true
    · rw [if_pos c, if_pos c, ih]
    · rw [if_neg c, if_neg c]; simp
theorem runE_one {σ : Type} (e : σ → List Int → σ × Bool) (l : List Int) (s : σ) : runE e [l] s = ((e s l).2, (e s l).1) := by
  unfold runE
  by_cases c : (e s l).2 = true
  · rw [if_pos c, c]; rfl
  · rw [if_neg c, show (e s l).2 = false by simpa using c]
theorem take_more {X c : List Int} {q : Int} (h : X.take (c ++ [q]).length = c ++ [q]) : X.take c.length = c := by
  have e : (X.take (c ++ [q]).length).take c.length = X.take c.length := by rw [List.take_take, Nat.min_eq_left (by simp)]
  rw [h] at e
  rw [← e]; simp
theorem p_ev {σ : Type} (e : σ → List Int → σ × Bool) {n : Nat} (hn : n ≤ 8) (m : Nat) (hm : m ≤ 3) : ∀ d,
    (∀ a b c X s, At n a b c → mu n a b < d → X.length = tot n → X.take c.length = c → ∃ X' : List Int, X'.length = tot n ∧ X'.take c.length = c ∧ Ev (fun k => impl_avoiding.p e k (n : Int) (m : Int) X (a : Int) (b : Int) s) ((runE e (sols n m d a b c) s).1, X', (runE e (sols n m d a b c) s).2)) ∧
    (∀ a b c X s, At n a b c → mu n a b < d → (n ≤ a + 1 ∨ b < n) → X.length = tot n → X.take c.length = c → ∃ X' : List Int, X'.length = tot n ∧ X'.take c.length = c ∧ Ev (fun k => impl_avoiding.h e k (n : Int) (m : Int) X (a : Int) (b : Int) s) ((runE e (sols n m d a b c) s).1, X', (runE e (sols n m d a b c) s).2)) := by
  intro d
  induction d with
  | zero => exact ⟨fun a b c X s _ h => by omega, fun a b c X s _ h => by omega⟩
  | succ d ih =>
    have ht := tot_le ⟨n, by omega⟩
    have leafh : ∀ (x y : Int) (c X : List Int) (s : σ), wrap64 ((n : Int) - 1) ≤ x → c.length = tot n → X.length = tot n → X.take c.length = c → Ev (fun k => impl_avoiding.h e k (n : Int) (m : Int) X x y s) ((runE e [c] s).1, X, (runE e [c] s).2) := by
      intro x y c X s hx hl hX hc
      have hXc := leaf_eq hX hc hl
      rw [runE_one]
      refine Ev.step (f := fun _ => some ((e s c).2, X, (e s c).1)) (fun k => ?_) (Ev.now _)
      simp only [impl_avoiding.h]
      rw [if_pos hx, clone_eq (by rw [hX]; simp only at ht; omega), Option.bind_some, hXc]
    have hh : ∀ a b c X s, At n a b c → mu n a b < d + 1 → (n ≤ a + 1 ∨ b < n) → X.length = tot n → X.take c.length = c → ∃ X' : List Int, X'.length = tot n ∧ X'.take c.length = c ∧ Ev (fun k => impl_avoiding.h e k (n : Int) (m : Int) X (a : Int) (b : Int) s) ((runE e (sols n m (d + 1) a b c) s).1, X', (runE e (sols n m (d + 1) a b c) s).2) := by
      intro a b c X s hat hmu hab hX hc
      by_cases leaf : n ≤ a + 1
      · have hl : c.length = tot n := by
          rcases hat with h | h
          · exact h.2.2
          · omega
        rw [sols_leaf leaf]
        exact ⟨X, hX, hc, leafh _ _ c X s ((leaf_cond hn).2 leaf) hl hX hc⟩
      · have hb : b < n := by omega
        obtain ⟨_, hlt, _, hp⟩ : a + 1 < n ∧ a < b ∧ b ≤ n ∧ c.length = pl n a b := by
          rcases hat with h | h
          · omega
          · exact h
        obtain ⟨_, hpl, hptot⟩ := pl_at hn hlt hb
        rw [sols_pair leaf hb]
        have loop : ∀ t q, m - q = t → q ≤ m → ∀ (X : List Int) (s : σ), X.length = tot n → X.take c.length = c → ∃ X' : List Int, X'.length = tot n ∧ X'.take c.length = c ∧ Ev (fun k => impl_avoiding.l0 e k (n : Int) (m : Int) X (a : Int) (b : Int) s (q : Int)) ((runE e (solsQ n m d a b c q) s).1, X', (runE e (solsQ n m d a b c q) s).2) := by
          intro t
          induction t with
          | zero =>
            intro q hq hqm X s hX hc
            obtain rfl : q = m := by omega
            rw [solsQ_end]
            refine ⟨X, hX, hc, ?_⟩
            exact Ev.step (f := fun _ => some (true, X, s)) (fun k => by simp only [impl_avoiding.l0]; rw [if_neg (by omega)]) (Ev.now _)
          | succ t iht =>
            intro q hq hqm X s hX hc
            have hqm' : q < m := by omega
            have hcl := clash_ev hn (m : Int) hX hc hlt hb hp (q : Int)
            rw [solsQ_step hqm']
            have st : ∀ k, impl_avoiding.l0 e (k + 1) (n : Int) (m : Int) X (a : Int) (b : Int) s (q : Int) = (impl_avoiding.l1 k (n : Int) (m : Int) X (a : Int) (b : Int) (q : Int) 0 false).bind fun cl => if cl = true then impl_avoiding.l0 e k (n : Int) (m : Int) X (a : Int) (b : Int) s ((q + 1 : Nat) : Int) else ((impl_avoiding.p e k (n : Int) (m : Int) (X.set c.length (q : Int)) (a : Int) ((b + 1 : Nat) : Int) s).bind fun z => if z.1 = true then impl_avoiding.l0 e k (n : Int) (m : Int) z.2.1 (a : Int) (b : Int) z.2.2 ((q + 1 : Nat) : Int) else some (false, z.2.1, z.2.2)) := by
              intro k
              simp only [impl_avoiding.l0]
              rw [if_pos (by omega), hpl, Option.bind_some, if_pos (by omega), if_pos (by rw [hX]; omega), Int.toNat_natCast, ← hp, succ_cast hqm' (by omega), succ_cast hb (by omega)]
            cases hcv : clash n c a b (q : Int) with
            | true =>
              rw [if_pos rfl, List.nil_append]
              obtain ⟨X', h1, h2, h3⟩ := iht (q + 1) (by omega) (by omega) X s hX hc
              refine ⟨X', h1, h2, Ev.step st ?_⟩
              rw [hcv] at hcl
              refine Ev.bind hcl ?_
              exact ev_if (fun _ => h3) (fun h => absurd rfl h)
            | false =>
              rw [if_neg (by simp)]
              have hset := set_take hX hc (by omega) (q : Int)
              obtain ⟨X1, g1, g2, g3⟩ := ih.1 a (b + 1) (c ++ [(q : Int)]) (X.set c.length (q : Int)) s (at_next hat leaf hb _) (by have := mu_next (a := a) hb; omega) (by rw [List.length_set]; exact hX) hset
              have g2' := take_more g2
              rw [hcv] at hcl
              rw [runE_append]
              cases hr : (runE e (sols n m d a (b + 1) (c ++ [(q : Int)])) s).1 with
              | true =>
                obtain ⟨X', h1, h2, h3⟩ := iht (q + 1) (by omega) (by omega) X1 (runE e (sols n m d a (b + 1) (c ++ [(q : Int)])) s).2 g1 g2'
                rw [hr] at g3
                refine ⟨X', h1, h2, Ev.step st ?_⟩
                refine Ev.bind hcl ?_
                refine ev_if (fun h => by simp at h) (fun _ => ?_)
                refine Ev.bind g3 ?_
                refine ev_if (fun _ => ?_) (fun h => absurd rfl h)
                rw [if_pos rfl]
                exact h3
              | false =>
                rw [hr] at g3
                refine ⟨X1, g1, g2', Ev.step st ?_⟩
                refine Ev.bind hcl ?_
                refine ev_if (fun h => by simp at h) (fun _ => ?_)
                refine Ev.bind g3 ?_
                refine ev_if (fun h => by simp at h) (fun _ => ?_)
                rw [if_neg (by simp), hr]
                exact Ev.now _
        obtain ⟨X', h1, h2, h3⟩ := loop m 0 (by omega) (by omega) X s hX hc
        refine ⟨X', h1, h2, Ev.step (f := fun k => impl_avoiding.l0 e k (n : Int) (m : Int) X (a : Int) (b : Int) s ((0 : Nat) : Int)) (fun k => ?_) h3⟩
        simp only [impl_avoiding.h]
        rw [if_neg (fun h => leaf ((leaf_cond hn).1 h))]
        rfl
    refine ⟨?_, hh⟩
    intro a b c X s hat hmu hX hc
    have ha : a ≤ n := by
      rcases hat with h | h
      · exact h.2.1
      · omega
    have w1 : wrap64 ((a : Int) + 1) = ((a + 1 : Nat) : Int) := succ_cast (n := a + 1) (by omega) (by omega)
    have w2 : wrap64 ((a : Int) + 2) = ((a + 2 : Nat) : Int) := by rw [wrap_id (by omega) (by omega)]; rfl
    have st : ∀ k, impl_avoiding.p e (k + 1) (n : Int) (m : Int) X (a : Int) (b : Int) s = if (n : Int) ≤ (b : Int) then impl_avoiding.h e k (n : Int) (m : Int) X ((a + 1 : Nat) : Int) ((a + 2 : Nat) : Int) s else impl_avoiding.h e k (n : Int) (m : Int) X (a : Int) (b : Int) s := by
      intro k
      simp only [impl_avoiding.p]
      rw [w1, w2]
    by_cases leaf : n ≤ a + 1
    · have hl : c.length = tot n := by
        rcases hat with h | h
        · exact h.2.2
        · omega
      rw [sols_leaf leaf]
      refine ⟨X, hX, hc, Ev.step st ?_⟩
      exact ev_if (fun _ => leafh _ _ c X s ((leaf_cond hn).2 (by omega)) hl hX hc) (fun _ => leafh _ _ c X s ((leaf_cond hn).2 leaf) hl hX hc)
    · by_cases hb : b < n
      · obtain ⟨X', h1, h2, h3⟩ := hh a b c X s hat hmu (Or.inr hb) hX hc
        refine ⟨X', h1, h2, Ev.step st ?_⟩
        exact ev_if (fun h => by omega) (fun _ => h3)
      · obtain rfl : b = n := by
          rcases hat with h | h
          · omega
          · omega
        obtain ⟨X', h1, h2, h3⟩ := ih.2 (a + 1) (a + 2) c X s (at_row hn hat leaf) (by have := mu_row (b := b) leaf; omega) (by omega) hX hc
        rw [sols_row leaf]
        refine ⟨X', h1, h2, Ev.step st ?_⟩
        exact ev_if (fun _ => h3) (fun h => by omega)
/-- One painting put to what the reference knows. -/
def oneS (n m mo : Int) (s : Int × Int × Int × List Int) (l : List Int) : Int × Int × Int × List Int := if s.1 = mo then s else if s.1 = 0 then (wrap64 (s.1 + 1), n, m, l) else (wrap64 (s.1 + 1), s.2)
theorem oneS_full {n m mo : Int} {s : Int × Int × Int × List Int} (h : s.1 = mo) : ∀ L : List (List Int), L.foldl (oneS n m mo) s = s
  | [] => rfl
  | l :: L => by
    rw [List.foldl_cons, show oneS n m mo s l = s by unfold oneS; rw [if_pos h]]
    exact oneS_full h L
theorem look_ev {n : Nat} (hn : n ≤ 8) (m : Nat) (hm : m ≤ 3) (mo : Int) : ∀ d a b c X (s : Int × Int × Int × List Int), At n a b c → mu n a b < d → X.length = tot n → X.take c.length = c → ∃ X' : List Int, X'.length = tot n ∧ X'.take c.length = c ∧
    Ev (fun k => spec_ptLook.f k (n : Int) (m : Int) X (a : Int) (b : Int) mo s.1 s.2.1 s.2.2.1 s.2.2.2) (((sols n m d a b c).foldl (oneS n m mo) s).1, ((sols n m d a b c).foldl (oneS n m mo) s).2.1, ((sols n m d a b c).foldl (oneS n m mo) s).2.2.1, ((sols n m d a b c).foldl (oneS n m mo) s).2.2.2, X') := by
  intro d
  induction d with
  | zero => intro a b c X s _ h; omega
  | succ d ih =>
    have ht := tot_le ⟨n, by omega⟩
    intro a b c X s hat hmu hX hc
    have ha : a ≤ n := by
      rcases hat with h | h
      · exact h.2.1
      · omega
    by_cases full : s.1 = mo
    · rw [oneS_full full]
      refine ⟨X, hX, hc, Ev.step (f := fun _ => some (s.1, s.2.1, s.2.2.1, s.2.2.2, X)) (fun k => ?_) (Ev.now _)⟩
      simp only [spec_ptLook.f]
      rw [if_pos full]
    by_cases leaf : n ≤ a + 1
    · have hl : c.length = tot n := by
        rcases hat with h | h
        · exact h.2.2
        · omega
      have hXc := leaf_eq hX hc hl
      rw [sols_leaf leaf, List.foldl_cons, List.foldl_nil]
      refine ⟨X, hX, hc, Ev.step (f := fun _ => some ((oneS n m mo s c).1, (oneS n m mo s c).2.1, (oneS n m mo s c).2.2.1, (oneS n m mo s c).2.2.2, X)) (fun k => ?_) (Ev.now _)⟩
      simp only [spec_ptLook.f]
      rw [if_neg full, if_pos ((leaf_cond hn).2 leaf)]
      unfold oneS
      rw [if_neg full]
      by_cases z : s.1 = 0
      · rw [if_pos z, if_pos z, ptOwn_eq _ _ (by rw [hX]; simp only at ht; omega), Option.bind_some, hXc]
      · rw [if_neg z, if_neg z]
    by_cases hb : b < n
    · obtain ⟨_, hlt, _, hp⟩ : a + 1 < n ∧ a < b ∧ b ≤ n ∧ c.length = pl n a b := by
        rcases hat with h | h
        · omega
        · exact h
      obtain ⟨hpl, _, hptot⟩ := pl_at hn hlt hb
      rw [sols_pair leaf hb]
      have loop : ∀ t q, m - q = t → q ≤ m → ∀ (X : List Int) (s : Int × Int × Int × List Int), X.length = tot n → X.take c.length = c → ∃ X' : List Int, X'.length = tot n ∧ X'.take c.length = c ∧
          Ev (fun k => spec_ptLook.l0 k (n : Int) (m : Int) X (a : Int) (b : Int) mo s.1 s.2.1 s.2.2.1 s.2.2.2 (q : Int)) (((solsQ n m d a b c q).foldl (oneS n m mo) s).1, ((solsQ n m d a b c q).foldl (oneS n m mo) s).2.1, ((solsQ n m d a b c q).foldl (oneS n m mo) s).2.2.1, ((solsQ n m d a b c q).foldl (oneS n m mo) s).2.2.2, X') := by
        intro t
        induction t with
        | zero =>
          intro q hq hqm X s hX hc
          obtain rfl : q = m := by omega
          rw [solsQ_end]
          refine ⟨X, hX, hc, ?_⟩
          exact Ev.step (f := fun _ => some (s.1, s.2.1, s.2.2.1, s.2.2.2, X)) (fun k => by simp only [spec_ptLook.l0]; rw [if_neg (by omega)]) (Ev.now _)
        | succ t iht =>
          intro q hq hqm X s hX hc
          have hqm' : q < m := by omega
          have hset := set_take hX hc (by omega) (q : Int)
          have hsl : (X.set c.length (q : Int)).length = tot n := by rw [List.length_set]; exact hX
          have hfr := free_ev hn (m : Int) hX hc hlt hb hp (q : Int)
          rw [solsQ_step hqm']
          have st : ∀ k, spec_ptLook.l0 (k + 1) (n : Int) (m : Int) X (a : Int) (b : Int) mo s.1 s.2.1 s.2.2.1 s.2.2.2 (q : Int) = (spec_ptFree.f k (n : Int) (m : Int) (X.set c.length (q : Int)) (a : Int) (b : Int)).bind fun fr => if fr = true then ((spec_ptLook.f k (n : Int) (m : Int) (X.set c.length (q : Int)) (a : Int) ((b + 1 : Nat) : Int) mo s.1 s.2.1 s.2.2.1 s.2.2.2).bind fun z => spec_ptLook.l0 k (n : Int) (m : Int) z.2.2.2.2 (a : Int) (b : Int) mo z.1 z.2.1 z.2.2.1 z.2.2.2.1 ((q + 1 : Nat) : Int)) else spec_ptLook.l0 k (n : Int) (m : Int) (X.set c.length (q : Int)) (a : Int) (b : Int) mo s.1 s.2.1 s.2.2.1 s.2.2.2 ((q + 1 : Nat) : Int) := by
            intro k
            simp only [spec_ptLook.l0]
            rw [if_pos (by omega), hpl, Option.bind_some, if_pos (by omega), if_pos (by rw [hX]; omega), Int.toNat_natCast, ← hp, succ_cast hqm' (by omega), succ_cast hb (by omega)]
          cases hcv : clash n c a b (q : Int) with
          | true =>
            rw [if_pos rfl, List.nil_append]
            obtain ⟨X', h1, h2, h3⟩ := iht (q + 1) (by omega) (by omega) _ s hsl (take_more hset)
            refine ⟨X', h1, h2, Ev.step st ?_⟩
            rw [hcv] at hfr
            refine Ev.bind hfr ?_
            exact ev_if (fun h => by simp at h) (fun _ => h3)
          | false =>
            rw [if_neg (by simp), List.foldl_append]
            obtain ⟨X1, g1, g2, g3⟩ := ih a (b + 1) (c ++ [(q : Int)]) (X.set c.length (q : Int)) s (at_next hat leaf hb _) (by have := mu_next (a := a) hb; omega) hsl hset
            obtain ⟨X', h1, h2, h3⟩ := iht (q + 1) (by omega) (by omega) X1 ((sols n m d a (b + 1) (c ++ [(q : Int)])).foldl (oneS n m mo) s) g1 (take_more g2)
            refine ⟨X', h1, h2, Ev.step st ?_⟩
            rw [hcv] at hfr
            refine Ev.bind hfr ?_
            refine ev_if (fun _ => ?_) (fun h => absurd rfl h)
            exact Ev.bind g3 h3
      obtain ⟨X', h1, h2, h3⟩ := loop m 0 (by omega) (by omega) X s hX hc
      refine ⟨X', h1, h2, Ev.step (f := fun k => spec_ptLook.l0 k (n : Int) (m : Int) X (a : Int) (b : Int) mo s.1 s.2.1 s.2.2.1 s.2.2.2 ((0 : Nat) : Int)) (fun k => ?_) h3⟩
      simp only [spec_ptLook.f]
      rw [if_neg full, if_neg (fun h => leaf ((leaf_cond hn).1 h)), if_neg (by omega)]
      rfl
    · obtain rfl : b = n := by
        rcases hat with h | h
        · omega
        · omega
      have w1 : wrap64 ((a : Int) + 1) = ((a + 1 : Nat) : Int) := succ_cast (n := a + 1) (by omega) (by omega)
      have w2 : wrap64 ((a : Int) + 2) = ((a + 2 : Nat) : Int) := by rw [wrap_id (by omega) (by omega)]; rfl
      obtain ⟨X', h1, h2, h3⟩ := ih (a + 1) (a + 2) c X s (at_row hn hat leaf) (by have := mu_row (b := b) leaf; omega) hX hc
      rw [sols_row leaf]
      refine ⟨X', h1, h2, Ev.step (f := fun k => spec_ptLook.f k (b : Int) (m : Int) X ((a + 1 : Nat) : Int) ((a + 2 : Nat) : Int) mo s.1 s.2.1 s.2.2.1 s.2.2.2) (fun k => ?_) h3⟩
      simp only [spec_ptLook.f]
      rw [if_neg full, if_neg (fun h => leaf ((leaf_cond hn).1 h)), if_pos trivial, w1, w2]
end Go.Proofs.Yteffcgocnkcpiaa.Plain

/- All paintings without a triple of one colour of n people: what both sides make of them. No condition but that there are at most eight people. -/
namespace Go.Proofs.Yteffcgocnkcpiaa.Plain
open Go.RowKit Go.Proofs.YteffcgocnkcpiaaW.PrintWords Go.Proofs.YteffcgocnkcpiaaW.PrintLast
set_option linter.unusedVariables false
open Q

theorem at_start {n : Nat} (hn : n ≤ 8) : At n 0 1 [] := by
  have : n = 0 ∨ n = 1 ∨ 1 < n := by omega
  rcases this with rfl | rfl | h
  · exact Or.inl ⟨by omega, by omega, by decide⟩
  · exact Or.inl ⟨by omega, by omega, by decide⟩
  · exact Or.inr ⟨by omega, by omega, by omega, by simp [pl]⟩
/-- All of them, in order. -/
def allA (n m : Nat) : List (List Int) := sols n m (n * (n + 1) + n + 1) 0 1 []
theorem mu_start (n : Nat) : mu n 0 1 < n * (n + 1) + n + 1 := by unfold mu; rw [Nat.sub_zero]; omega
theorem tot_int : ∀ n : Fin 9, (n.val : Int) * ((n.val : Int) - 1) / 2 = ((tot n.val : Nat) : Int) := by decide +kernel
theorem implAv_ev {σ : Type} (e : σ → List Int → σ × Bool) {n : Nat} (hn : n ≤ 8) {m : Nat} (hm : m ≤ 3) (s : σ) : Ev (fun k => impl_avoiding.f e k (n : Int) (m : Int) s) (runE e (allA n m) s) := by
  have h28 := tot_le ⟨n, by omega⟩
  have hti := tot_int ⟨n, by omega⟩
  simp only at h28 hti
  have hc := choose_two (n := (n : Int)) (by omega) (by omega)
  rw [hti] at hc
  obtain ⟨X', _, _, h3⟩ := (p_ev e hn m hm (n * (n + 1) + n + 1)).1 0 1 [] (List.replicate (tot n) 0) s (at_start hn) (mu_start n) (by simp) (by simp)
  unfold impl_avoiding.f
  refine Ev.bind hc ?_
  refine ev_if (fun _ => ?_) (fun h => by omega)
  refine ev_if (fun _ => ?_) (fun h => by omega)
  rw [Int.toNat_natCast]
  exact Ev.bind h3 (Ev.now _)
theorem specAv_ev {n : Nat} (hn : n ≤ 8) {m : Nat} (hm : m ≤ 3) (mo : Int) : Ev (fun k => spec_ptAvoiding.f k (n : Int) (m : Int) mo) ((allA n m).foldl (oneS n m mo) (0, 0, 0, [])) := by
  have h28 := tot_le ⟨n, by omega⟩
  have hti := tot_int ⟨n, by omega⟩
  simp only at h28 hti
  have hp := pairs_of (n := (n : Int)) (by omega) (by omega)
  rw [hti] at hp
  obtain ⟨X', _, _, h3⟩ := look_ev hn m hm mo (n * (n + 1) + n + 1) 0 1 [] (List.replicate (tot n) 0) (0, 0, 0, []) (at_start hn) (mu_start n) (by simp) (by simp)
  unfold spec_ptAvoiding.f
  rw [hp]
  refine ev_if (fun _ => ?_) (fun h => by omega)
  refine ev_if (fun _ => ?_) (fun h => by omega)
  rw [Int.toNat_natCast]
  exact Ev.bind h3 (Ev.now _)
theorem sols_len {n m : Nat} (hn : n ≤ 8) : ∀ d a b c, At n a b c → ∀ x ∈ sols n m d a b c, x.length = tot n := by
  intro d
  induction d with
  | zero => intro a b c _ x hx; simp [sols] at hx
  | succ d ih =>
    intro a b c hat x hx
    by_cases leaf : n ≤ a + 1
    · rw [sols_leaf leaf] at hx
      obtain rfl := List.mem_singleton.1 hx
      rcases hat with h | h
      · exact h.2.2
      · omega
    · by_cases hb : b < n
      · have e : sols n m (d + 1) a b c = (List.range m).flatMap fun (q : Nat) => if clash n c a b (q : Int) = true then [] else sols n m d a (b + 1) (c ++ [(q : Int)]) := by rw [sols_pair leaf hb]; rfl
        rw [e] at hx
        obtain ⟨q, _, hq⟩ := List.mem_flatMap.1 hx
        by_cases cl : clash n c a b (q : Int) = true
        · rw [if_pos cl] at hq; cases hq
        · rw [if_neg cl] at hq
          exact ih _ _ _ (at_next hat leaf hb _) x hq
      · obtain rfl : b = n := by
          rcases hat with h | h
          · omega
          · omega
        rw [sols_row leaf] at hx
        exact ih _ _ _ (at_row hn hat leaf) x hx
theorem isPainted_eq (n m : Int) : impl_isPainted.f n m = some ((decide (0 ≤ n) && decide (n ≤ 8)) && (decide (1 ≤ m) && decide (m ≤ 3))) := by
  unfold impl_isPainted.f
  rw [within_eq, Option.bind_some, within_eq, Option.bind_some]
  cases (decide (0 ≤ n) && decide (n ≤ 8)) <;> rfl
end Go.Proofs.Yteffcgocnkcpiaa.Plain
/- The program's FirstAvoiding returns what the reference's returns, for all arguments. No condition. -/
namespace Go.Proofs.Yteffcgocnkcpiaa.Pure
open Go.RowKit Go.Proofs.YteffcgocnkcpiaaW.PrintWords Go.Proofs.YteffcgocnkcpiaaW.PrintLast
set_option linter.unusedVariables false
open Q Plain

theorem first_fold (n m : Int) (l : List Int) (L : List (List Int)) : (l :: L).foldl (oneS n m 1) (0, 0, 0, []) = (1, n, m, l) := by
  rw [List.foldl_cons, show oneS n m 1 (0, 0, 0, []) l = (1, n, m, l) by unfold oneS; simp only; rw [if_neg (by omega), wrap_id (by omega) (by omega)]; simp]
  exact oneS_full (n := n) (m := m) (mo := 1) (s := (1, n, m, l)) rfl L
def tellL (n m : Int) (L : List (List Int)) : Int × Int × List Int × Bool := match L with
  | [] => (0, 0, [], false)
  | l :: _ => (n, m, l, true)
def tell (n m : Int) : Int × Int × List Int × Bool := if (0 ≤ n ∧ n ≤ 8) ∧ (1 ≤ m ∧ m ≤ 3) then tellL n m (allA n.toNat m.toNat) else (0, 0, [], false)
theorem tell_len (n m : Int) : (tell n m).2.2.1.length ≤ 28 := by
  unfold tell
  by_cases h : (0 ≤ n ∧ n ≤ 8) ∧ (1 ≤ m ∧ m ≤ 3)
  · rw [if_pos h]
    have hl := sols_len (n := n.toNat) (m := m.toNat) (by omega) (n.toNat * (n.toNat + 1) + n.toNat + 1) 0 1 [] (at_start (by omega))
    have ht := tot_le ⟨n.toNat, by omega⟩
    simp only at ht
    have e : allA n.toNat m.toNat = sols n.toNat m.toNat (n.toNat * (n.toNat + 1) + n.toNat + 1) 0 1 [] := rfl
    rw [← e] at hl
    generalize allA n.toNat m.toNat = L at hl
    cases L with
    | nil => simp [tellL]
    | cons l L =>
      have := hl l (by simp)
      show l.length ≤ 28
      omega
  · rw [if_neg h]; simp
theorem impl_ev (n m : Int) : Ev (fun k => impl_FirstAvoiding.f k n m) (tell n m) := by
  unfold impl_FirstAvoiding.f
  refine ev_bind0 (isPainted_eq n m) ?_
  refine ev_if (fun h => ?_) (fun h => ?_)
  · simp only [Bool.and_eq_true, decide_eq_true_eq] at h
    unfold tell
    rw [if_pos h]
    obtain ⟨a, rfl⟩ := Int.eq_ofNat_of_zero_le h.1.1
    obtain ⟨b, rfl⟩ := Int.eq_ofNat_of_zero_le (show 0 ≤ m by omega)
    have q := implAv_ev impl_FirstAvoiding.e (n := a) (by omega) (m := b) (by omega) none
    rw [Int.toNat_natCast, Int.toNat_natCast]
    generalize allA a b = L at q
    refine Ev.bind q ?_
    cases L with
    | nil => exact Ev.now _
    | cons l L => exact Ev.now _
  · simp only [Bool.and_eq_true, decide_eq_true_eq] at h
    unfold tell
    rw [if_neg h]
    exact Ev.now _
theorem spec_ev (n m : Int) : Ev (fun k => spec_FirstAvoiding.f k n m) (tell n m) := by
  have out : ∀ x : Bool, x = true → ¬ ((0 ≤ n ∧ n ≤ 8) ∧ (1 ≤ m ∧ m ≤ 3)) → Ev (fun k => spec_FirstAvoiding.j0 k n m x) (tell n m) := by
    intro x hx h
    unfold tell
    rw [if_neg h]
    exact Ev.step (f := fun _ => some (0, 0, ([] : List Int), false)) (fun k => by simp only [spec_FirstAvoiding.j0]; rw [if_pos hx]) (Ev.now _)
  unfold spec_FirstAvoiding.f
  refine ev_bind0 (l1In_eq _ _ _) ?_
  refine ev_if (fun h => ?_) (fun h => ?_)
  · refine ev_bind0 (l1In_eq _ _ _) ?_
    by_cases g : (decide (1 ≤ m) && decide (m ≤ 3)) = true
    · rw [g]
      simp only [Bool.and_eq_true, decide_eq_true_eq] at h g
      unfold tell
      rw [if_pos ⟨h, g⟩]
      obtain ⟨a, rfl⟩ := Int.eq_ofNat_of_zero_le h.1
      obtain ⟨b, rfl⟩ := Int.eq_ofNat_of_zero_le (show 0 ≤ m by omega)
      have q := specAv_ev (n := a) (by omega) (m := b) (by omega) 1
      rw [Int.toNat_natCast, Int.toNat_natCast]
      refine Ev.step (f := fun k => (spec_ptAvoiding.f k (a : Int) (b : Int) 1).bind fun bt142 => (if bt142.1 = 0 then (some (0, 0, ([] : List Int), false)) else (some (bt142.2.1, bt142.2.2.1, bt142.2.2.2, true)))) (fun k => by simp only [spec_FirstAvoiding.j0]; rfl) ?_
      generalize allA a b = L at q
      refine Ev.bind q ?_
      cases L with
      | nil => exact Ev.now _
      | cons l L =>
        rw [first_fold]
        exact Ev.now _
    · have g' := Bool.eq_false_iff.mpr g
      rw [g']
      simp only [Bool.and_eq_true, decide_eq_true_eq] at g
      exact out _ rfl (fun z => g z.2)
  · simp only [Bool.and_eq_true, decide_eq_true_eq] at h
    exact out _ rfl (fun z => h z.1)
theorem FnExactFirstAvoiding : laws_FnExactFirstAvoiding.Pure := by
  intro n m _ _
  refine Ev.rounds (g := fun k => laws_FnExactFirstAvoiding.f k n m) ?_
  unfold laws_FnExactFirstAvoiding.f
  have hS := spec_ev n m
  have hI := impl_ev n m
  have hp := tell_len n m
  generalize tell n m = z at hS hI hp
  obtain ⟨pn, pc, ps, ok1⟩ := z
  replace hp : ps.length ≤ 28 := hp
  refine Ev.bind hS ?_
  refine Ev.bind hI ?_
  refine Ev.bind (eqPainting_ev pn pc ps (by omega)) ?_
  refine ev_if (fun _ => ?_) (fun h => absurd rfl h)
  show Ev (fun k => laws_FnExactFirstAvoiding.j0 k n m ok1 (ok1 != ok1) pn pc ps pn pc ps) true
  rw [show (ok1 != ok1) = false by simp]
  refine Ev.step (f := fun k => (laws_markPainting.f k pn pc ps 1).bind fun bt176 => ((laws_heldPainting.f k pn pc bt176.2 1).bind fun t178 => (if t178 < 0 then (some false) else (if t178 = bt176.1 then ((impl_FirstAvoiding.f k n m).bind fun bt179 => ((laws_eqPainting.f k bt179.1 bt179.2.1 bt179.2.2.1 pn pc ps).bind fun t186 => (if t186 = true then (laws_FnExactFirstAvoiding.j1 k bt176.1 (bt179.2.2.2 != ok1) pn pc bt176.2) else (laws_FnExactFirstAvoiding.j1 k bt176.1 true pn pc bt176.2)))) else (some false))))) (fun k => by simp only [laws_FnExactFirstAvoiding.j0]; rfl) ?_
  refine Ev.bind (markPainting_ev pn pc ps (by omega)) ?_
  refine Ev.bind (heldPainting_ev pn pc _ (by omega)) ?_
  refine ev_if (fun (q : (1 + ((ps.length : Nat) : Int)) < 0) => by omega) (fun _ => ?_)
  refine ev_if (fun _ => ?_) (fun h => absurd rfl h)
  refine Ev.bind hI ?_
  refine Ev.bind (eqPainting_ev pn pc ps (by omega)) ?_
  refine ev_if (fun _ => ?_) (fun h => absurd rfl h)
  show Ev (fun k => laws_FnExactFirstAvoiding.j1 k (1 + (ps.length : Int)) (ok1 != ok1) pn pc (marksI 1 ps.length)) true
  rw [show (ok1 != ok1) = false by simp]
  refine Ev.step (f := fun k => (laws_heldPainting.f k pn pc (marksI 1 ps.length) 1).bind fun t187 => (if t187 < 0 then (some false) else (if t187 = (1 + (ps.length : Int)) then (some true) else (some false)))) (fun k => by simp only [laws_FnExactFirstAvoiding.j1]; rfl) ?_
  refine Ev.bind (heldPainting_ev pn pc _ (by omega)) ?_
  refine ev_if (fun (q : (1 + ((ps.length : Nat) : Int)) < 0) => by omega) (fun _ => ?_)
  refine ev_if (fun _ => ?_) (fun h => absurd rfl h)
  exact Ev.now _
end Go.Proofs.Yteffcgocnkcpiaa.Pure
