/- The law's own functions over lists of lists of whole numbers. No condition but lengths that fit. -/
import Derived.Test.YtlacnnnmeolomaaQ0
import Derived.Test.YtlacnnnmeolomaaQ19
import Derived.Test.YtlacnnnmeolomaaQ24
import Derived.Test.YtlacnnnmeolomaaQ25
import Derived.Test.YtlacnnnmeolomaaQ31
import Derived.Test.YtlacnnnmeolomaaQ32
import Derived.Test.YtlacnnnmeolomaaBase
import Derived.Test.YtlacnnnmeolomaaInts
namespace Go.Proofs.Ytlacnnnmeolomaa.Plain
open Go.RowKit Go.Proofs.YtlacnnnmeolomaaW.PrintWords Go.Proofs.YtlacnnnmeolomaaW.PrintLast
set_option linter.unusedVariables false
open Q

theorem rdL_at {l : List (List Int)} {i : Nat} (h : i < l.length) : rd_L5 l (i : Int) = l[i] := by
  simp [rd_L5, List.getD, h]

/-- What is left of a bound behind all rows; -1 once it is passed. -/
def szR : List (List Int) → Int → Int
  | [], left => left
  | x :: t, left => if left < x.length then -1 else szR t (left - x.length)

theorem szR_len : ∀ (l : List (List Int)) (left : Int), 0 ≤ left → 0 ≤ szR l left → ∀ x ∈ l, (x.length : Int) ≤ left
  | [], _, _, _, x, hx => by simp at hx
  | y :: t, left, h0, h, x, hx => by
    unfold szR at h
    by_cases c : left < y.length
    · rw [if_pos c] at h; omega
    · rw [if_neg c] at h
      rcases List.mem_cons.1 hx with rfl | hx
      · omega
      · have := szR_len t (left - y.length) (by omega) h x hx
        omega

theorem szIntSS_ev (l : List (List Int)) (a : Int) (h0 : 0 ≤ a) (h1 : a ≤ 1048576) (h : l.length ≤ 9223372036854775807) (hx : ∀ x ∈ l, x.length ≤ 9223372036854775807) :
    Ev (fun k => laws_szIntSS.f k l a) (if a < (l.length : Int) then -1 else szR l (a - l.length)) := by
  refine Ev.congr (f := fun k => if a - (l.length : Int) < 0 then some (-1) else laws_szIntSS.l0 k l (a - (l.length : Int)) 0) (fun k => ?_) ?_
  · unfold laws_szIntSS.f
    rw [wrap_id (by omega) (by omega)]
  refine ev_if (fun c => by rw [if_pos (by omega)]; exact Ev.now _) (fun c => ?_)
  rw [if_neg (by omega)]
  have key : ∀ d i (left : Int), i ≤ l.length → l.length - i = d → 0 ≤ left → left ≤ 1048576 → Ev (fun k => laws_szIntSS.l0 k l left (i : Int)) (szR (l.drop i) left) := by
    intro d
    induction d with
    | zero =>
      intro i left hi hd _ _
      have e : i = l.length := by omega
      subst e
      refine Ev.step (f := fun _ => some left) (fun k => ?_) (by simpa [szR] using Ev.now left)
      simp [laws_szIntSS.l0]
    | succ d ih =>
      intro i left hi hd hl0 hl1
      have hil : i < l.length := by omega
      rw [List.drop_eq_getElem_cons hil]
      have hs := szIntS_eq l[i] left hl0 hl1 (hx _ (List.getElem_mem hil))
      unfold szR
      by_cases c2 : left < (l[i].length : Int)
      · rw [if_pos c2] at hs ⊢
        refine Ev.step (f := fun _ => some (-1)) (fun k => ?_) (Ev.now _)
        simp only [laws_szIntSS.l0]
        rw [if_pos (by omega), if_pos (by omega), rdL_at hil, hs, Option.bind_some, if_pos (by omega)]
      · rw [if_neg c2] at hs ⊢
        refine Ev.step (f := fun k => laws_szIntSS.l0 k l (left - l[i].length) ((i + 1 : Nat) : Int)) (fun k => ?_) (ih (i + 1) (left - l[i].length) (by omega) (by omega) (by omega) (by omega))
        simp only [laws_szIntSS.l0]
        rw [if_pos (by omega), if_pos (by omega), rdL_at hil, hs, Option.bind_some, if_neg (by omega), succ_cast hil h]
  simpa using key l.length 0 (a - l.length) (by omega) rfl (by omega) (by omega)

theorem copy_stepL {α : Type} (z : α) (l : List α) (i : Nat) (h : i < l.length) :
    (l.take i ++ List.replicate (l.length - i) z).set ((i : Int)).toNat l[i] = l.take (i + 1) ++ List.replicate (l.length - (i + 1)) z := by
  have e : l.length - i = (l.length - (i + 1)) + 1 := by omega
  have hl : (l.take i).length = i := by simp; omega
  rw [Int.toNat_natCast, e, List.replicate_succ, List.set_append_right _ _ (by omega), hl, Nat.sub_self, List.set_cons_zero, List.take_succ_eq_append_getElem h, List.append_assoc]
  rfl

theorem toIntSS_ev (l : List (List Int)) (h : l.length ≤ 11728124029610) (hx : ∀ x ∈ l, x.length ≤ 35184372088832) : Ev (fun k => laws_toIntSS.f k l) l := by
  refine Ev.congr (f := fun k => laws_toIntSS.l0 k l (List.replicate l.length []) 0) (fun k => ?_) ?_
  · unfold laws_toIntSS.f
    rw [if_pos (by omega), if_pos (by omega), Int.toNat_natCast]
  · have q := ev_up (n := l.length) (loop := fun k i => laws_toIntSS.l0 k l (l.take i ++ List.replicate (l.length - i) []) (i : Int)) (r := fun _ => l)
      (Ev.step (f := fun _ => some l) (fun k => by simp [laws_toIntSS.l0]) (Ev.now l))
      (fun i hi ih => by
        refine Ev.step (f := fun k => (laws_toIntS.f k l[i]).bind fun t => laws_toIntSS.l0 k l ((l.take i ++ List.replicate (l.length - i) []).set ((i : Int)).toNat t) ((i + 1 : Nat) : Int)) (fun k => ?_) ?_
        · simp only [laws_toIntSS.l0]
          rw [if_pos (by omega), if_pos (by omega), rdL_at hi]
          congr 1
          funext t
          rw [if_pos (by simp; omega), succ_cast hi (by omega)]
        · refine Ev.bind (toIntS_ev l[i] (hx _ (List.getElem_mem hi))) ?_
          rw [copy_stepL [] l i hi]; exact ih) 0 (Nat.zero_le _)
    simpa using q

theorem eqIntSS_ev (l : List (List Int)) (h : l.length ≤ 9223372036854775807) (hx : ∀ x ∈ l, x.length ≤ 9223372036854775807) : Ev (fun k => laws_eqIntSS.f k l l) true := by
  refine Ev.congr (f := fun k => laws_eqIntSS.l0 k l l 0) (fun k => ?_) ?_
  · unfold laws_eqIntSS.f
    rw [if_pos rfl]
  · exact ev_up (n := l.length) (loop := fun k i => laws_eqIntSS.l0 k l l (i : Int)) (r := fun _ => true)
      (Ev.step (f := fun _ => some true) (fun k => by simp [laws_eqIntSS.l0]) (Ev.now true))
      (fun i hi ih => by
        refine Ev.step (f := fun k => (laws_eqIntS.f k l[i] l[i]).bind fun t => if t = true then laws_eqIntSS.l0 k l l ((i + 1 : Nat) : Int) else some false) (fun k => ?_) ?_
        · simp only [laws_eqIntSS.l0]
          rw [if_pos (by omega), if_pos (by omega), if_pos (by omega), rdL_at hi, succ_cast hi h]
        · refine Ev.bind (eqIntS_ev l[i] (hx _ (List.getElem_mem hi))) ?_
          exact ev_if (fun _ => ih) (fun h => absurd rfl h)) 0 (Nat.zero_le _)
end Go.Proofs.Ytlacnnnmeolomaa.Plain
