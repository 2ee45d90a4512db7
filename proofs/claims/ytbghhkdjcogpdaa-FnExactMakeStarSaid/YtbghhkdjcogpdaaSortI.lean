/- slices.Sort over a row of whole numbers of one's own: the row holds the sorted list. No condition but fewer than 2^62 numbers. -/
import Derived.Sort.OwnSortedInts
import Derived.Test.YtbghhkdjcogpdaaProg
import Derived.Test.YtbghhkdjcogpdaaShelf
import Derived.Test.YtbghhkdjcogpdaaV1
import Derived.Test.YtbghhkdjcogpdaaV2WGuardMore
namespace Go.Proofs.Ytbghhkdjcogpdaa.Q
open Go.RowKit Go.Proofs.YtbghhkdjcogpdaaW.PrintWords Go.Proofs.YtbghhkdjcogpdaaW.PrintLast Go.Proofs.YtbghhkdjcogpdaaW.PrintMore
set_option linter.unusedVariables false

set_option maxHeartbeats 2000000 in
theorem sortI.calls (P0_ : Nat → Prop) (u : Value) (xs : List Int) (w0 w : World) (hx : xs.length < 4611686018427387904) (hB : Below w0.heap.size w0 w) (hR : Kd.R (Kd.int .i64) 3 w w0.heap.size P0_ u xs) :
    Calls Try.prog 13 #[u] w fun e w' => e = .returned (.tuple #[]) ∧ Kd.R (Kd.int .i64) 3 w' w0.heap.size (fun k_ => (P0_ k_ ∨ w.heap.size ≤ k_)) u (xs.mergeSort fun x y => decide (x ≤ y)) ∧ Below w0.heap.size w0 w' ∧ Kept w w' (fun k_ => P0_ k_) := by
  have ho := Kd.own_of_R hR
  rcases ho.2 with ⟨h0, hz⟩ | ⟨gb, cap, cur, h0, hbs, hgb, r1, r2, r3, r4⟩
  · have hx : xs = [] := List.eq_nil_of_length_eq_zero hz
    subst hx
    subst h0
    refine (Try.slices_Sort_int_none none 0 w).mono ?_
    rintro e w' ⟨rfl, rfl⟩
    exact ⟨rfl, by simpa using Kd.R_nil _ _ _ _ _, hB, Kept.refl _ _⟩
  · subst h0
    have hp : P0_ gb := hR.1 gb (by simp [Value.ownBlock])
    have hH : Go.Sort.Holds (Value.int .i64) w gb 0 xs.toArray := holds_of_blockI hgb (by simpa [encs] using r4)
    have hgl : gb < w.heap.size := (Array.getElem?_eq_some_iff.1 hgb).1
    refine (Try.slices_Sort_int gb 0 cap xs w hH hgl hx).mono ?_
    rintro e w' ⟨rfl, n, os, rfl⟩
    have hg := grownBy_sortedI (w := w) (g := gb) (n := n) (os := os) (xs.mergeSort fun x y => decide (x ≤ y)).toArray
    have hw := ownsRow_sortedI (n := n) (os := os) (ss := xs) (ts := xs.mergeSort fun x y => decide (x ≤ y)) (by simp) hbs hgb r1 r2 r3
    refine ⟨rfl, Kd.R_of_own (by rw [List.length_mergeSort]; exact hw) (fun k hk => ?_), hB.grown hg hB.size (fun j hj => by cases hj; exact hbs), Kept.of_grown hg (Kept.refl _ _) (fun k hk => by cases hk; exact .inl hp)⟩
    simp only [Value.ownBlock, Option.some.injEq] at hk
    subst hk
    exact .inl hp
end Go.Proofs.Ytbghhkdjcogpdaa.Q
