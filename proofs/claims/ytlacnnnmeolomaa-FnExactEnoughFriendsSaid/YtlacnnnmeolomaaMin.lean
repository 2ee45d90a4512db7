/- slices.Min over whole numbers. No condition but a length that fits. -/
import Derived.Test.YtlacnnnmeolomaaQ0
import Derived.Test.YtlacnnnmeolomaaQ141
import Derived.Test.YtlacnnnmeolomaaBase
namespace Go.Proofs.Ytlacnnnmeolomaa.Plain
open Go.RowKit Go.Proofs.YtlacnnnmeolomaaW.PrintWords Go.Proofs.YtlacnnnmeolomaaW.PrintLast
set_option linter.unusedVariables false
open Q

theorem min_ev (l : List Int) (hne : 0 < l.length) (h : l.length ≤ 9223372036854775807) : ∃ m, Ev (fun k => slices_Min_int_int.f k l) m ∧ m ∈ l ∧ ∀ x ∈ l, m ≤ x := by
  have key : ∀ d i (m : Int), i ≤ l.length → l.length - i = d → m ∈ l → (∀ x ∈ l.take i, m ≤ x) → ∃ r, Ev (fun k => slices_Min_int_int.l0 k l m (i : Int)) r ∧ r ∈ l ∧ ∀ x ∈ l, r ≤ x := by
    intro d
    induction d with
    | zero =>
      intro i m hi hd hm hx
      have e : i = l.length := by omega
      subst e
      rw [List.take_length] at hx
      exact ⟨m, Ev.step (f := fun _ => some m) (fun k => by simp [slices_Min_int_int.l0]) (Ev.now _), hm, hx⟩
    | succ d ih =>
      intro i m hi hd hm hx
      have hil : i < l.length := by omega
      obtain ⟨r, h1, h2, h3⟩ := ih (i + 1) (mn m l[i]) (by omega) (by omega) (by unfold mn; split <;> first | exact hm | exact List.getElem_mem hil) (by
        intro x hx2
        rw [List.take_succ_eq_append_getElem hil] at hx2
        rcases List.mem_append.1 hx2 with h | h
        · have := hx x h
          unfold mn; split <;> omega
        · have : x = l[i] := by simpa using h
          subst this
          unfold mn; split <;> omega)
      refine ⟨r, Ev.step (f := fun k => slices_Min_int_int.l0 k l (mn m l[i]) ((i + 1 : Nat) : Int)) (fun k => ?_) h1, h2, h3⟩
      simp only [slices_Min_int_int.l0]
      rw [if_pos (by omega), if_pos (by omega), rd_at hil, succ_cast hil h]
  obtain ⟨r, h1, h2, h3⟩ := key (l.length - 1) 1 l[0] (by omega) rfl (List.getElem_mem hne) (by
    intro x hx
    rw [List.take_succ_eq_append_getElem hne] at hx
    simp at hx
    omega)
  refine ⟨r, ?_, h2, h3⟩
  refine Ev.congr (f := fun k => slices_Min_int_int.l0 k l l[0] ((1 : Nat) : Int)) (fun k => ?_) h1
  unfold slices_Min_int_int.f
  rw [if_neg (by omega), if_pos (by omega), show (0 : Int) = ((0 : Nat) : Int) by rfl, rd_at hne]
  rfl
end Go.Proofs.Ytlacnnnmeolomaa.Plain
