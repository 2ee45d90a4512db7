import Derived.Test.YtbghhkdjcogpdaaQ0
import Derived.Test.YtbghhkdjcogpdaaCompactI
namespace Go.Proofs.Ytbghhkdjcogpdaa.Q
open Go.RowKit Go.Proofs.YtbghhkdjcogpdaaW.PrintWords Go.Proofs.YtbghhkdjcogpdaaW.PrintLast Go.Proofs.YtbghhkdjcogpdaaW.PrintMore
attribute [local go_sem] max2_int min2_int max_two min_two max_three min_three max_four min_four   -- for this text's walks alone
set_option linter.unusedVariables false
set_option linter.unusedSimpArgs false

/-! ### slices_Compact_int_int: function 14 (proved by hand) -/
/-- A row with each run of equal numbers made one: what is handed back lies in the row. -/
def slices_Compact_int_int.f (l0 : List Int) : Option (List Int) := some (Go.Lib.compact l0)
set_option maxHeartbeats 8000000 in
set_option maxRecDepth 100000 in
theorem slices_Compact_int_int.calls (P0_ : Nat → Prop) (u9000_ : Value) (l0 : List Int) (r : List Int) (w0 w : World) (hB : Below w0.heap.size w0 w) (ho0 : Kd.R (Kd.int .i64) 3 w w0.heap.size P0_ u9000_ l0) (h : slices_Compact_int_int.f l0 = some r) :
  Calls Try.prog 14 #[u9000_] w fun e w' => ∃ v0_ : Value, e = .returned (v0_) ∧ Kd.R (Kd.int .i64) 3 w' w0.heap.size (fun k_ => (P0_ k_ ∨ w.heap.size ≤ k_)) v0_ r ∧ Below w0.heap.size w0 w' ∧ Kept w w' (fun k_ => P0_ k_) := by
 obtain rfl := Option.some.inj h
 exact compactI.calls P0_ u9000_ l0 w0 w hB ho0

end Go.Proofs.Ytbghhkdjcogpdaa.Q
