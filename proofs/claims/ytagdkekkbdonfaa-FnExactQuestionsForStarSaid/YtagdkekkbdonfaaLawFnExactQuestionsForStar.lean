-- Written by wip/tools/gprint.py: the row of one law, out of its pure statement and the contract of the law's function. Lean checks it.
import Derived.Test.YtagdkekkbdonfaaRows
import Derived.Test.YtagdkekkbdonfaaQ29
import Derived.Test.YtagdkekkbdonfaaSayFnExactQuestionsForStar
import Derived.Test.YtagdkekkbdonfaaPureFnExactQuestionsForStar
import Derived.Test.YtagdkekkbdonfaaOpen
import Derived.WalkKit
import Derived.ProofKit
import Derived.OpenShut
import Derived.ShutString
import Derived.ChangeOld
import Derived.Below
import Derived.SizedLaws
namespace Go.Proofs.Ytagdkekkbdonfaa.fnExactQuestionsForStar
open Go.ChangeShapes Go.WideShapes Go.ChangeAt Go.RowKit Go.Proofs.YtagdkekkbdonfaaW.PrintWords
open Go.ChangeMaps (open_string shut_string)
set_option linter.unusedVariables false
theorem own : ownKnob Try.prog.godebug = none := by kernel_rfl
theorem laidOut : laidOutB Try.prog = true := by kernel_rfl
set_option maxRecDepth 100000 in
theorem lifted (os : Os) (started : os.Started) (H : Type) (enc : TypeId × Value → H) :
    ReturnsInHanded {} Try.checked os 4 .any (Rows.fnExactQuestionsForStarSpec.pre6 enc Try.prog Try.f4 Rows.fnExactQuestionsForStarRow.domain false) (Rows.fnExactQuestionsForStarSpec.post enc Try.prog Try.f4 false true false false) := by
  refine returnsInHanded_of_change_sized (C := Try.checked) own started (by kernel_rfl) Try.func4
    (ChangeSpec.witness6 (enc := enc) (C := Try.checked) false ⟨#[], #[.slice none 0 0], []⟩ 8 (by kernel_rfl) (by kernel_rfl) (by kernel_rfl) (by kernel_rfl)) ?_
  intro W base args ds gs before hval0 hW hcnd hsz0 _
  have hsz : (DataW.weightsEach Try.prog (Try.f4.params.toList ++ Rows.fnExactQuestionsForStarSpec.plain.varTypes Try.prog) (ds ++ gs)).all (· ≤ reachBytes) = true := hsz0
  have hval : ∀ (j : Nat) t v, Try.f4.params[j]? = some t → args[j]? = some v → Value.okWide Try.prog W .any base t v := hval0
  have hW' := hW
  obtain ⟨p, q, hA0, hV, rfl, hfz, hnd⟩ := hW
  have hA : DataW.TrodAll enc Try.prog W 0 (fun _ => true) true Try.f4.params.toList args.toList ds p := hA0
  rw [Try.params4] at hA hval hsz
  obtain ⟨v0, vs0, d0, ds0, p0, q0, hargs, rfl, rfl, h0, r0⟩ := trodAll_cons hA
  obtain ⟨rfl, rfl, rfl⟩ := trodAll_nil r0
  obtain rfl : args = #[v0] := by cases args; simp_all
  obtain ⟨rfl, rfl⟩ := trodVars_none hV
  have k0 := h0
  have lt0 : ∀ x ∈ p0, x.block < W.heap.size := by obtain ⟨m, hm⟩ := k0; exact DataW.trod_lt m _ _ _ hm
  obtain ⟨A0', l0', c0', rfl⟩ := okWide_slice Try.underlying38 (hval 0 38 v0 rfl rfl)
  obtain ⟨n0, t0⟩ := h0
  replace t0 : DataW.trod enc Try.prog W 0 (fun _ => true) true n0 38 [.slice A0' l0' c0'] = some (d0, p0) := by simpa [Value.cells] using t0
  obtain ⟨A0, c0, l0, ev0, hc0, hr0, w0⟩ := Open.rows_C Try.underlying38 Try.underlying26 Try.underlying3 (by kernel_rfl) (by kernel_rfl) t0
  injection ev0 with e1 e2 e3; subst e2; replace e1 := e1.symm; subst e1; replace e3 := e3.symm; subst e3
  clear hA0 hval0 hsz0 hsz
  obtain ⟨k_, hk_⟩ := Pure.FnExactQuestionsForStar l0 (Kd.C_max hr0) w0
  refine (Q.laws_FnExactQuestionsForStar.calls k_ A0 c0 l0 true W hr0 hc0 hk_).mono fun e W' ⟨he, bel0⟩ => ?_
  have bel : Below W.heap.size W W' := bel0
  subst he
  exact ⟨_, rfl, _, _, _, [], _, [], hW', trodAll_mk1 (shut_bool Try.underlying4 _), (trodAll_cons_mk (Below.trod laidOut (by kernel_rfl) (of_decide_eq_true (by kernel_rfl)) k0 bel lt0) trodAll_mk0), rfl, bel.frame _, fun h => by cases h⟩
theorem over : Rows.fnExactQuestionsForStarRow.holds Try.pinned (OpenSpec.ofChange Rows.fnExactQuestionsForStarSpec) :=
  OpenClaim.holds_of_wide 4 Try.f4 rfl rfl rfl rfl rfl rfl rfl ⟨rfl, rfl, rfl, rfl, rfl⟩ rfl rfl rfl rfl rfl (by kernel_rfl) Try.func4 (by kernel_rfl)
    (of_decide_eq_true (by kernel_rfl)) (by unfold Func.isWrapper; first | (rw [if_pos (by decide +kernel)]; kernel_rfl) | (rw [if_neg (by decide +kernel)]; exact ⟨rfl, rfl⟩))
    (fun os started H enc _ => lifted os started H enc)
theorem proved : Rows.FnExactQuestionsForStarSaid := over
#print axioms proved
end Go.Proofs.Ytagdkekkbdonfaa.fnExactQuestionsForStar
namespace Go.Proofs.Ytagdkekkbdonfaa
/-- The row, under a short name, for the claim. -/
theorem fnExactQuestionsForStar_holds : Rows.FnExactQuestionsForStarSaid := fnExactQuestionsForStar.proved
end Go.Proofs.Ytagdkekkbdonfaa
