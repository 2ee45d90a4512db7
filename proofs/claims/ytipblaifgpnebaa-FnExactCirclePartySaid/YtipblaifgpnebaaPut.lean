/- One pair put into a table, on both sides; the empty tables. No condition but that there are at most twelve people. -/
import Derived.Test.YtipblaifgpnebaaQ0
import Derived.Test.YtipblaifgpnebaaQ32
import Derived.Test.YtipblaifgpnebaaQ64
import Derived.Test.YtipblaifgpnebaaBase
import Derived.Test.YtipblaifgpnebaaInts
import Derived.Test.YtipblaifgpnebaaParty
import Derived.Test.YtipblaifgpnebaaGraph
import Derived.Test.YtipblaifgpnebaaTable
import Derived.Test.YtipblaifgpnebaaTableB
namespace Go.Proofs.Ytipblaifgpnebaa.Plain
open Go.RowKit Go.Proofs.YtipblaifgpnebaaW.PrintWords Go.Proofs.YtipblaifgpnebaaW.PrintLast
set_option linter.unusedVariables false
open Q

theorem put_eq {n : Nat} (hn : n ≤ 12) (f : Nat → Nat → Bool) {a b : Nat} (ha : a < n) (hb : b < n) (hab : a ≠ b) : impl_table_put.f (tabF n f) (a : Int) (b : Int) = some (tabF n (withP f a b)) := by
  have h := tab_put (n := n) (by omega) f ha hb hab
  unfold impl_table_put.f
  rw [if_pos (by omega), if_pos (by rw [tabF_length]; omega), if_pos (by omega), Option.bind_some, if_pos (by rw [tabF_length]; omega), Int.toNat_natCast, Int.toNat_natCast, h]

theorem tabF_zero (n : Nat) : List.replicate n 0 = tabF n (fun _ _ => false) := by
  have hz : ∀ m, maskOf (fun _ => false) m = 0 := by
    intro m
    induction m with
    | zero => rfl
    | succ m ih => unfold maskOf; rw [ih]; simp
  symm
  unfold tabF
  rw [List.eq_replicate_iff]
  refine ⟨by simp, fun b hb => ?_⟩
  obtain ⟨a, _, rfl⟩ := List.mem_map.1 hb
  rw [hz]; rfl

theorem setP_withP (f : Nat → Nat → Bool) (a b : Nat) : setP f a b true = withP f a b := by
  funext c d
  exact setP_true f a b c d

theorem paTable0_ev {n : Nat} (hn : n ≤ 12) : Ev (fun k => spec_paTable.f k (n : Int) []) (tabB n (fun _ _ => false)) := by
  have := paTable_ev (n := n) (l := []) hn (fun x hx => absurd hx (by simp)) (by simp)
  have e : adj [] = fun _ _ => false := by funext a b; rfl
  rw [e] at this
  exact this
end Go.Proofs.Ytipblaifgpnebaa.Plain
