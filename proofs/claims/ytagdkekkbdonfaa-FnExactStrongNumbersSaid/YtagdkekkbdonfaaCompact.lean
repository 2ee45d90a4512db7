/- slices.Compact over a row of whole numbers of one's own: what it hands back is a row of one's own that holds the compacted list. No condition. -/
import Derived.Sort.OwnSortedInts
import Derived.Shelf.Slices.CompactI
import Derived.Test.YtagdkekkbdonfaaProg
import Derived.Test.YtagdkekkbdonfaaShelf
import Derived.Test.YtagdkekkbdonfaaV1
import Derived.Test.YtagdkekkbdonfaaV2WGuardMore
namespace Go.Proofs.Ytagdkekkbdonfaa.Q
open Go.RowKit Go.Proofs.YtagdkekkbdonfaaW.PrintWords Go.Proofs.YtagdkekkbdonfaaW.PrintLast Go.Proofs.YtagdkekkbdonfaaW.PrintMore
set_option linter.unusedVariables false

theorem compact_length_le (xs : List Int) : (Go.Lib.compact xs).length ≤ xs.length := by
  unfold Go.Lib.compact Go.Lib.compactUpTo
  rw [List.length_map]
  exact Nat.le_trans (List.length_filter_le _ _) (by simp)

set_option maxHeartbeats 2000000 in
theorem compact.calls (A : Option Addr) (c : Nat) (xs : List Int) (base : Nat) (W : World) (hR : Kd.R (Kd.int .i64) 3 W base (fun _ => True) (.slice A xs.length c) xs) (hbase : base ≤ W.heap.size) :
    Calls Try.prog 65 #[.slice A xs.length c] W fun e w' => ∃ A' c', e = .returned (.slice A' (Go.Lib.compact xs).length c') ∧ Kd.R (Kd.int .i64) 3 w' base (fun _ => True) (.slice A' (Go.Lib.compact xs).length c') (Go.Lib.compact xs) ∧ Below base W w' := by
  have ho := Kd.own_of_R hR
  rcases ho.2 with ⟨h0, hz⟩ | ⟨gb, cap, cur, h0, hbs, hgb, r1, r2, r3, r4⟩
  · have hx : xs = [] := List.eq_nil_of_length_eq_zero hz
    subst hx
    injection h0 with e1 e2 e3
    subst e1; subst e3
    refine (Try.slices_Compact_int_empty none 0 W).mono ?_
    rintro e w' ⟨rfl, rfl⟩
    exact ⟨none, 0, rfl, Kd.R_nil _ _ _ _ _, Below.refl _ _⟩
  · injection h0 with e1 e2 e3
    subst e1; subst e3
    have hH : Go.Sort.Holds (Value.int .i64) W gb 0 xs.toArray := holds_of_blockI hgb (by simpa [encs] using r4)
    have hl := compact_length_le xs
    refine (Try.slices_Compact_int gb 0 c xs W hH (by simp only [maxLen] at r2; omega) r1).mono ?_
    rintro e w' ⟨rfl, q, rfl⟩
    have hg := grownBy_sortedI (w := W) (g := gb) (n := q) (os := #[]) (Go.Lib.compact xs ++ List.replicate (xs.length - (Go.Lib.compact xs).length) 0).toArray
    have hw := ownsRow_sortedI (n := q) (os := #[]) (ss := xs) (ts := Go.Lib.compact xs ++ List.replicate (xs.length - (Go.Lib.compact xs).length) 0) (by simp; omega) hbs hgb r1 r2 r3
    rw [Go.Sort.grow_empty] at hg hw
    have hlen : (Go.Lib.compact xs ++ List.replicate (xs.length - (Go.Lib.compact xs).length) 0).length = xs.length := by simp; omega
    refine ⟨_, _, rfl, ?_, (Below.refl base W).grown hg hbase (fun j hj => by cases hj; exact hbs)⟩
    have h1 : Kd.R (Kd.int .i64) 3 (Go.Sort.putRow (Value.int .i64) (Go.Sort.ahead W q) gb 0 (Go.Lib.compact xs ++ List.replicate (xs.length - (Go.Lib.compact xs).length) 0).toArray) base (fun _ => True) (.slice (some ⟨gb, 0, none⟩) xs.length c) (Go.Lib.compact xs ++ List.replicate (xs.length - (Go.Lib.compact xs).length) 0) :=
      Kd.R_of_own (by rw [hlen]; exact hw) (fun _ _ => trivial)
    have h2 := Kd.R_take h1 (m := (Go.Lib.compact xs).length) (by rw [hlen]; exact hl)
    rwa [List.take_left'] at h2
    rfl
end Go.Proofs.Ytagdkekkbdonfaa.Q
