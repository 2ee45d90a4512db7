-- Written by wip/tools/gprint.py: the row of one law, out of its pure statement and the contract of the law's function. Lean checks it.
import Derived.Test.YtcdngkehajifcaaRows
import Derived.Test.YtcdngkehajifcaaQ23
import Derived.Test.YtcdngkehajifcaaSayFnExactUselessCalls
import Derived.Test.YtcdngkehajifcaaPureFnExactUselessCalls
import Derived.Test.YtcdngkehajifcaaOpen
import Derived.WalkKit
import Derived.ProofKit
import Derived.OpenShut
import Derived.ShutString
import Derived.ChangeOld
import Derived.Below
import Derived.SizedLaws
namespace Go.Proofs.Ytcdngkehajifcaa.fnExactUselessCalls
open Go.ChangeShapes Go.WideShapes Go.ChangeAt Go.RowKit Go.Proofs.YtcdngkehajifcaaW.PrintWords
open Go.ChangeMaps (open_string shut_string)
set_option linter.unusedVariables false
theorem own : ownKnob Try.prog.godebug = none := by kernel_rfl
theorem laidOut : laidOutB Try.prog = true := by kernel_rfl
set_option maxRecDepth 100000 in
theorem lifted (os : Os) (started : os.Started) (H : Type) (enc : TypeId × Value → H) :
    ReturnsInHanded {} Try.checked os 8 .any (Rows.fnExactUselessCallsSpec.pre6 enc Try.prog Try.f8 Rows.fnExactUselessCallsRow.domain false) (Rows.fnExactUselessCallsSpec.post enc Try.prog Try.f8 false true false false) := by
  refine returnsInHanded_of_change_sized (C := Try.checked) own started (by kernel_rfl) Try.func8
    (ChangeSpec.witness6 (enc := enc) (C := Try.checked) false ⟨#[], #[.int .i64 0, .slice none 0 0], []⟩ 8 (by kernel_rfl) (by kernel_rfl) (by kernel_rfl) (by kernel_rfl)) ?_
  intro W base args ds gs before hval0 hW hcnd hsz0 _
  have hsz : (DataW.weightsEach Try.prog (Try.f8.params.toList ++ Rows.fnExactUselessCallsSpec.plain.varTypes Try.prog) (ds ++ gs)).all (· ≤ reachBytes) = true := hsz0
  have hval : ∀ (j : Nat) t v, Try.f8.params[j]? = some t → args[j]? = some v → Value.okWide Try.prog W .any base t v := hval0
  have hW' := hW
  obtain ⟨p, q, hA0, hV, rfl, hfz, hnd⟩ := hW
  have hA : DataW.TrodAll enc Try.prog W 0 (fun _ => true) true Try.f8.params.toList args.toList ds p := hA0
  rw [Try.params8] at hA hval hsz
  obtain ⟨v0, vs0, d0, ds0, p0, q0, hargs, rfl, rfl, h0, r0⟩ := trodAll_cons hA
  obtain ⟨v1, vs1, d1, ds1, p1, q1, rfl, rfl, rfl, h1, r1⟩ := trodAll_cons r0
  obtain ⟨rfl, rfl, rfl⟩ := trodAll_nil r1
  obtain rfl : args = #[v0, v1] := by cases args; simp_all
  obtain ⟨rfl, rfl⟩ := trodVars_none hV
  obtain ⟨a0, rfl, rfl, rfl, w0⟩ := open_int Try.underlying3 (hval 0 3 v0 rfl rfl) h0
  have k1 := h1
  have lt1 : ∀ x ∈ p1, x.block < W.heap.size := by obtain ⟨m, hm⟩ := k1; exact DataW.trod_lt m _ _ _ hm
  obtain ⟨A1', l1', c1', rfl⟩ := okWide_slice Try.underlying38 (hval 1 38 v1 rfl rfl)
  obtain ⟨n1, t1⟩ := h1
  replace t1 : DataW.trod enc Try.prog W 0 (fun _ => true) true n1 38 [.slice A1' l1' c1'] = some (d1, p1) := by simpa [Value.cells] using t1
  obtain ⟨A1, c1, l1, ev1, hc1, hr1, w1⟩ := Open.pairs_C (S := Q.S96) (f := fun x : Q.S96 => (x.f0, x.f1)) (fun a b => (⟨a, b⟩ : Q.S96)) (fun _ _ => rfl) Try.underlying38 Try.underlying96 (by kernel_rfl) rfl rfl (by kernel_rfl) (by kernel_rfl) Try.underlying3 Try.underlying3 t1
  injection ev1 with e1 e2 e3; subst e2; replace e1 := e1.symm; subst e1; replace e3 := e3.symm; subst e3
  clear hA0 hval0 hsz0 hsz
  obtain ⟨k_, hk_⟩ := Pure.FnExactUselessCalls a0 l1 w0 (Kd.C_max hr1) w1
  refine (Q.laws_FnExactUselessCalls.calls k_ a0 A1 c1 l1 true W hr1 hc1 hk_).mono fun e W' ⟨he, bel0⟩ => ?_
  have bel : Below W.heap.size W W' := bel0
  subst he
  exact ⟨_, rfl, _, _, _, [], _, [], hW', trodAll_mk1 (shut_bool Try.underlying4 _), (trodAll_cons_mk (shut_int Try.underlying3 w0) (trodAll_cons_mk (Below.trod laidOut (by kernel_rfl) (of_decide_eq_true (by kernel_rfl)) k1 bel lt1) trodAll_mk0)), rfl, bel.frame _, fun h => by cases h⟩
theorem over : Rows.fnExactUselessCallsRow.holds Try.pinned (OpenSpec.ofChange Rows.fnExactUselessCallsSpec) :=
  OpenClaim.holds_of_wide 8 Try.f8 rfl rfl rfl rfl rfl rfl rfl ⟨rfl, rfl, rfl, rfl, rfl⟩ rfl rfl rfl rfl rfl (by kernel_rfl) Try.func8 (by kernel_rfl)
    (of_decide_eq_true (by kernel_rfl)) (by unfold Func.isWrapper; first | (rw [if_pos (by decide +kernel)]; kernel_rfl) | (rw [if_neg (by decide +kernel)]; exact ⟨rfl, rfl⟩))
    (fun os started H enc _ => lifted os started H enc)
theorem proved : Rows.FnExactUselessCallsSaid := over
#print axioms proved
end Go.Proofs.Ytcdngkehajifcaa.fnExactUselessCalls
namespace Go.Proofs.Ytcdngkehajifcaa
/-- The row, under a short name, for the claim. -/
theorem fnExactUselessCalls_holds : Rows.FnExactUselessCallsSaid := fnExactUselessCalls.proved
end Go.Proofs.Ytcdngkehajifcaa
