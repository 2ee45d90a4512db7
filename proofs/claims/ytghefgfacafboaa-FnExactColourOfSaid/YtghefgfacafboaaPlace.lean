/- The place of a pair among the pairs of a painting, and its colour, on both sides. No condition but lengths that fit. -/
import Derived.Test.YtghefgfacafboaaQ0
import Derived.Test.YtghefgfacafboaaQ49
import Derived.Test.YtghefgfacafboaaQ104
import Derived.Test.YtghefgfacafboaaQ107
import Derived.Test.YtghefgfacafboaaQ115
import Derived.Test.YtghefgfacafboaaQ116
import Derived.Test.YtghefgfacafboaaQ117
import Derived.Test.YtghefgfacafboaaQ118
import Derived.Test.YtghefgfacafboaaQ119
import Derived.Test.YtghefgfacafboaaQ120
import Derived.Test.YtghefgfacafboaaBase
import Derived.Test.YtghefgfacafboaaInts
import Derived.Test.YtghefgfacafboaaPaint
namespace Go.Proofs.Ytghefgfacafboaa.Plain
open Go.RowKit Go.Proofs.YtghefgfacafboaaW.PrintWords Go.Proofs.YtghefgfacafboaaW.PrintLast
set_option linter.unusedVariables false
open Q

/-- The place of a pair among those of n people. -/
def placeOf (n a b : Int) : Int := if a > b then b * (2 * n - b - 1) / 2 + a - b - 1 else a * (2 * n - a - 1) / 2 + b - a - 1

theorem place_all : ∀ n : Fin 9, ∀ a : Fin 9, ∀ b : Fin 9, a.val < n.val → b.val < n.val → a.val ≠ b.val →
    spec_ptAt.f (n.val : Int) (a.val : Int) (b.val : Int) = some (placeOf n.val a.val b.val) ∧ impl_place.f (n.val : Int) (a.val : Int) (b.val : Int) = some (placeOf n.val a.val b.val) ∧
      0 ≤ placeOf n.val a.val b.val ∧ placeOf n.val a.val b.val < (n.val : Int) * ((n.val : Int) - 1) / 2 := by decide +kernel

/-- Two different people of a painting. -/
def two (n c : Int) (l : List Int) (a b : Int) : Bool := painted n c l && ((decide (0 ≤ a) && decide (a ≤ n - 1)) && ((decide (0 ≤ b) && decide (b ≤ n - 1)) && (a != b)))

theorem painted_of {n c : Int} {l : List Int} (h : painted n c l = true) : 0 ≤ n ∧ n ≤ 8 ∧ 1 ≤ c ∧ c ≤ 3 ∧ (l.length : Int) = n * (n - 1) / 2 ∧ ∀ x ∈ l, 0 ≤ x ∧ x ≤ c - 1 := by
  unfold painted at h
  simp only [Bool.and_eq_true, decide_eq_true_eq, List.all_eq_true] at h
  obtain ⟨⟨h1, h2⟩, ⟨h3, h4⟩, h5, h6⟩ := h
  exact ⟨h1, h2, h3, h4, h5, h6⟩

theorem two_of {n c : Int} {l : List Int} {a b : Int} (h : two n c l a b = true) : painted n c l = true ∧ (0 ≤ a ∧ a ≤ n - 1) ∧ (0 ≤ b ∧ b ≤ n - 1) ∧ a ≠ b := by
  unfold two at h
  simp only [Bool.and_eq_true, decide_eq_true_eq, bne_iff_ne, ne_eq] at h
  obtain ⟨h0, h1, h2, h3⟩ := h
  exact ⟨h0, h1, h2, h3⟩

theorem place_two {n c : Int} {l : List Int} {a b : Int} (h : two n c l a b = true) :
    spec_ptAt.f n a b = some (placeOf n a b) ∧ impl_place.f n a b = some (placeOf n a b) ∧ 0 ≤ placeOf n a b ∧ placeOf n a b < (l.length : Int) := by
  obtain ⟨hp, h1, h2, h3⟩ := two_of h
  obtain ⟨p1, p2, _, _, p5, _⟩ := painted_of hp
  have q := place_all ⟨n.toNat, by omega⟩ ⟨a.toNat, by omega⟩ ⟨b.toNat, by omega⟩ (by show a.toNat < n.toNat; omega) (by show b.toNat < n.toNat; omega) (by show a.toNat ≠ b.toNat; omega)
  have en : ((n.toNat : Nat) : Int) = n := by omega
  have ea : ((a.toNat : Nat) : Int) = a := by omega
  have eb : ((b.toNat : Nat) : Int) = b := by omega
  simp only [en, ea, eb] at q
  rw [p5]
  exact q

/-- The colour of a pair. -/
def colourOf (n c : Int) (l : List Int) (a b : Int) : Int × Bool := if two n c l a b = true then (rd l (placeOf n a b), true) else (0, false)

theorem ptTwo_ev (n c : Int) (l : List Int) (a b : Int) (h : l.length ≤ 9223372036854775807) : Ev (fun k => spec_ptTwo.f k n c l a b) (two n c l a b) := by
  unfold spec_ptTwo.f
  refine Ev.bind (ptGood_ev n c l h) ?_
  refine ev_if (fun b1 => ?_) (fun b1 => ?_)
  · obtain ⟨p1, p2, _⟩ := painted_of b1
    rw [wrap_id (x := n - 1) (by omega) (by omega)]
    refine ev_bind0 (l1In_eq _ _ _) ?_
    unfold two
    rw [b1]
    cases b2 : (decide (0 ≤ a) && decide (a ≤ n - 1)) with
    | false => exact ev_some (fun _ => by simp)
    | true =>
      refine ev_if (fun _ => ?_) (fun h => absurd rfl h)
      refine ev_bind0 (l1In_eq _ _ _) ?_
      cases b3 : (decide (0 ≤ b) && decide (b ≤ n - 1)) with
      | false => exact ev_some (fun _ => by simp)
      | true => exact ev_some (fun _ => by simp)
  · have e : two n c l a b = false := by
      unfold two
      rw [Bool.eq_false_iff.mpr b1]; simp
    rw [e]; exact Ev.now _

theorem isPair_ev (n c : Int) (l : List Int) (a b : Int) (h : l.length ≤ 9223372036854775807) : Ev (fun k => impl_isPair.f k n c l a b) (two n c l a b) := by
  unfold impl_isPair.f
  refine Ev.bind (isPainting_ev n c l h) ?_
  refine ev_if (fun b1 => ?_) (fun b1 => ?_)
  · obtain ⟨p1, p2, _⟩ := painted_of b1
    rw [wrap_id (x := n - 1) (by omega) (by omega)]
    refine ev_bind0 (a := (decide (0 ≤ a) && decide (a ≤ n - 1)) && (decide (0 ≤ b) && decide (b ≤ n - 1))) (by simp [impl_areWithin.f]) ?_
    unfold two
    rw [b1]
    cases b2 : (decide (0 ≤ a) && decide (a ≤ n - 1)) with
    | false => exact ev_some (fun _ => by simp)
    | true =>
      cases b3 : (decide (0 ≤ b) && decide (b ≤ n - 1)) with
      | false => exact ev_some (fun _ => by simp)
      | true => exact ev_some (fun _ => by simp)
  · have e : two n c l a b = false := by
      unfold two
      rw [Bool.eq_false_iff.mpr b1]; simp
    rw [e]; exact Ev.now _

theorem ptOf_eq {n c : Int} {l : List Int} {a b : Int} (h : two n c l a b = true) : spec_ptOf.f n c l a b = some (rd l (placeOf n a b)) := by
  obtain ⟨h1, _, h3, h4⟩ := place_two h
  unfold spec_ptOf.f
  rw [h1, Option.bind_some, if_pos h3, if_pos h4]

theorem of_eq {n c : Int} {l : List Int} {a b : Int} (h : two n c l a b = true) : impl_Painting_of.f n c l a b = some (rd l (placeOf n a b)) := by
  obtain ⟨_, h2, h3, h4⟩ := place_two h
  unfold impl_Painting_of.f
  rw [h2, Option.bind_some, if_pos h3, if_pos h4]

theorem specColourOf_ev (n c : Int) (l : List Int) (a b : Int) (h : l.length ≤ 9223372036854775807) : Ev (fun k => spec_ColourOf.f k n c l a b) (colourOf n c l a b) := by
  unfold spec_ColourOf.f
  refine Ev.bind (ptTwo_ev n c l a b h) ?_
  unfold colourOf
  refine ev_if (fun b1 => ?_) (fun b1 => ?_)
  · rw [if_pos b1]
    exact ev_some (fun _ => by rw [ptOf_eq b1]; rfl)
  · rw [if_neg b1]; exact Ev.now _

theorem implColourOf_ev (n c : Int) (l : List Int) (a b : Int) (h : l.length ≤ 9223372036854775807) : Ev (fun k => impl_ColourOf.f k n c l a b) (colourOf n c l a b) := by
  unfold impl_ColourOf.f
  refine Ev.bind (isPair_ev n c l a b h) ?_
  unfold colourOf
  refine ev_if (fun b1 => ?_) (fun b1 => ?_)
  · rw [if_pos b1]
    exact ev_some (fun _ => by rw [of_eq b1]; rfl)
  · rw [if_neg b1]; exact Ev.now _
end Go.Proofs.Ytghefgfacafboaa.Plain
