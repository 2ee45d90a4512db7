/- Is a list strictly increasing. No condition but a length that fits. -/
import Derived.Test.YtipblaifgpnebaaQ0
import Derived.Test.YtipblaifgpnebaaQ62
import Derived.Test.YtipblaifgpnebaaBase
namespace Go.Proofs.Ytipblaifgpnebaa.Plain
open Go.RowKit Go.Proofs.YtipblaifgpnebaaW.PrintWords Go.Proofs.YtipblaifgpnebaaW.PrintLast
set_option linter.unusedVariables false
open Q

/-- A number is greater than the one before. -/
def risesAt (l : List Int) (i : Nat) : Bool := decide (rd l ((i : Int) - 1) < rd l (i : Int))
def rising (l : List Int) : Bool := ((List.range l.length).drop 1).all (risesAt l)

theorem isRising_ev (l : List Int) (h : l.length ≤ 9223372036854775806) : Ev (fun k => impl_isRising.f k l) (rising l) := by
  have q := ev_from (lo := 1) (n := max 1 l.length) (loop := fun k i => impl_isRising.l0 k l (i : Int)) (r := fun i => ((List.range l.length).drop i).all (risesAt l))
    (Ev.step (f := fun _ => some true) (fun k => by simp only [impl_isRising.l0]; rw [if_neg (by omega)]) (by rw [all_end _ (by omega)]; exact Ev.now true))
    (fun i h0 hi ih => by
      have hl : i < l.length := by omega
      rw [all_step _ hl]
      have e : risesAt l i = decide (l[i-1] < l[i]) := by
        unfold risesAt
        rw [show ((i : Int) - 1) = ((i - 1 : Nat) : Int) by omega, rd_at hl, rd_at (by omega : i - 1 < l.length)]
      rw [e]
      by_cases c : l[i] ≤ l[i-1]
      · refine Ev.step (f := fun _ => some false) (fun k => ?_) (by rw [decide_eq_false (by omega)]; simpa using Ev.now false)
        simp only [impl_isRising.l0]
        rw [pred_cast h0 (by omega), if_pos (by omega), if_pos (by omega), if_pos (by omega), if_pos (by omega), rd_at hl, rd_at (by omega : i - 1 < l.length), if_pos c]
      · refine Ev.step (f := fun k => impl_isRising.l0 k l ((i + 1 : Nat) : Int)) (fun k => ?_) (by rw [decide_eq_true (by omega), Bool.true_and]; exact ih)
        simp only [impl_isRising.l0]
        rw [pred_cast h0 (by omega), if_pos (by omega), if_pos (by omega), if_pos (by omega), if_pos (by omega), rd_at hl, rd_at (by omega : i - 1 < l.length), if_neg c, succ_cast hl (by omega)]) 1 (Nat.le_refl _) (by omega)
  simpa [impl_isRising.f, rising] using q

theorem rising_get {l : List Int} (h : rising l = true) : ∀ i, (hi : i + 1 < l.length) → l[i] < l[i+1] := by
  intro i hi
  unfold rising at h
  rw [List.all_eq_true] at h
  have hm : i + 1 ∈ (List.range l.length).drop 1 := by
    rw [List.mem_drop_iff_getElem]
    exact ⟨i, by simpa using hi, by simp; omega⟩
  have q := h _ hm
  unfold risesAt at q
  rw [show (((i + 1 : Nat) : Int) - 1) = ((i : Nat) : Int) by omega, rd_at hi, rd_at (by omega : i < l.length)] at q
  simpa using q

theorem rising_ge {l : List Int} (h : rising l = true) (lo : Int) (hlo : ∀ x ∈ l, lo ≤ x) : ∀ i, (hi : i < l.length) → lo + i ≤ l[i] := by
  intro i
  induction i with
  | zero => intro hi; have := hlo l[0] (List.getElem_mem hi); simpa using this
  | succ i ih =>
    intro hi
    have := ih (by omega)
    have := rising_get h i hi
    omega

theorem rising_len {l : List Int} (h : rising l = true) {lo hi : Int} (hb : ∀ x ∈ l, lo ≤ x ∧ x ≤ hi) (hne : l ≠ []) : (l.length : Int) ≤ hi - lo + 1 := by
  have hl : 0 < l.length := List.length_pos_iff.mpr hne
  have h1 := rising_ge h lo (fun x hx => (hb x hx).1) (l.length - 1) (by omega)
  have h2 := (hb l[l.length - 1] (List.getElem_mem (by omega))).2
  omega
end Go.Proofs.Ytipblaifgpnebaa.Plain
