/- slices.Compact over a row of whole numbers of one's own: what it hands back lies in that row and holds the compacted list. No condition. -/
import Derived.Sort.OwnSortedInts
import Derived.Shelf.Slices.CompactI
import Derived.Test.YtbghhkdjcogpdaaProg
import Derived.Test.YtbghhkdjcogpdaaShelf
import Derived.Test.YtbghhkdjcogpdaaV1
import Derived.Test.YtbghhkdjcogpdaaV2WGuardMore
namespace Go.Proofs.Ytbghhkdjcogpdaa.Q
open Go.RowKit Go.Proofs.YtbghhkdjcogpdaaW.PrintWords Go.Proofs.YtbghhkdjcogpdaaW.PrintLast Go.Proofs.YtbghhkdjcogpdaaW.PrintMore
set_option linter.unusedVariables false

theorem compact_length_le (xs : List Int) : (Go.Lib.compact xs).length ≤ xs.length := by
  unfold Go.Lib.compact Go.Lib.compactUpTo
  rw [List.length_map]
  exact Nat.le_trans (List.length_filter_le _ _) (by simp)

set_option maxHeartbeats 2000000 in
theorem compactI.calls (P0_ : Nat → Prop) (u : Value) (xs : List Int) (w0 W : World) (hB : Below w0.heap.size w0 W) (hR : Kd.R (Kd.int .i64) 3 W w0.heap.size P0_ u xs) :
    Calls Try.prog 14 #[u] W fun e w' => ∃ v0_ : Value, e = .returned v0_ ∧ Kd.R (Kd.int .i64) 3 w' w0.heap.size (fun k_ => (P0_ k_ ∨ W.heap.size ≤ k_)) v0_ (Go.Lib.compact xs) ∧ Below w0.heap.size w0 w' ∧ Kept W w' (fun k_ => P0_ k_) := by
  have ho := Kd.own_of_R hR
  rcases ho.2 with ⟨h0, hz⟩ | ⟨gb, cap, cur, h0, hbs, hgb, r1, r2, r3, r4⟩
  · have hx : xs = [] := List.eq_nil_of_length_eq_zero hz
    subst hx
    subst h0
    refine (Try.slices_Compact_int_empty none 0 W).mono ?_
    rintro e w' ⟨rfl, rfl⟩
    exact ⟨.slice none 0 0, rfl, by simpa [Go.Lib.compact, Go.Lib.compactUpTo] using Kd.R_nil _ _ _ _ _, hB, Kept.refl _ _⟩
  · subst h0
    have hp : P0_ gb := hR.1 gb (by simp [Value.ownBlock])
    have hH : Go.Sort.Holds (Value.int .i64) W gb 0 xs.toArray := holds_of_blockI hgb (by simpa [encs] using r4)
    have hl := compact_length_le xs
    refine (Try.slices_Compact_int gb 0 cap xs W hH (by simp only [maxLen] at r2; omega) r1).mono ?_
    rintro e w' ⟨rfl, q, rfl⟩
    have hg := grownBy_sortedI (w := W) (g := gb) (n := q) (os := #[]) (Go.Lib.compact xs ++ List.replicate (xs.length - (Go.Lib.compact xs).length) 0).toArray
    have hw := ownsRow_sortedI (n := q) (os := #[]) (ss := xs) (ts := Go.Lib.compact xs ++ List.replicate (xs.length - (Go.Lib.compact xs).length) 0) (by simp; omega) hbs hgb r1 r2 r3
    rw [Go.Sort.grow_empty] at hg hw
    have hlen : (Go.Lib.compact xs ++ List.replicate (xs.length - (Go.Lib.compact xs).length) 0).length = xs.length := by simp; omega
    refine ⟨_, rfl, ?_, hB.grown hg hB.size (fun j hj => by cases hj; exact hbs), Kept.of_grown hg (Kept.refl _ _) (fun k hk => by cases hk; exact .inl hp)⟩
    have h1 : Kd.R (Kd.int .i64) 3 (Go.Sort.putRow (Value.int .i64) (Go.Sort.ahead W q) gb 0 (Go.Lib.compact xs ++ List.replicate (xs.length - (Go.Lib.compact xs).length) 0).toArray) w0.heap.size (fun k_ => (P0_ k_ ∨ W.heap.size ≤ k_)) (.slice (some ⟨gb, 0, none⟩) xs.length cap) (Go.Lib.compact xs ++ List.replicate (xs.length - (Go.Lib.compact xs).length) 0) :=
      Kd.R_of_own (by rw [hlen]; exact hw) (fun k hk => by simp only [Value.ownBlock, Option.some.injEq] at hk; subst hk; exact .inl hp)
    have h2 := Kd.R_take h1 (m := (Go.Lib.compact xs).length) (by rw [hlen]; exact hl)
    rwa [List.take_left'] at h2
    rfl
end Go.Proofs.Ytbghhkdjcogpdaa.Q
