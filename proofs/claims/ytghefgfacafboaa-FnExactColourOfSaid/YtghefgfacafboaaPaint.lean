/- Paintings: both sides' tests, and the law's own functions over paintings. No condition but lengths that fit. -/
import Derived.Test.YtghefgfacafboaaQ0
import Derived.Test.YtghefgfacafboaaQ41
import Derived.Test.YtghefgfacafboaaQ43
import Derived.Test.YtghefgfacafboaaQ46
import Derived.Test.YtghefgfacafboaaQ47
import Derived.Test.YtghefgfacafboaaQ48
import Derived.Test.YtghefgfacafboaaQ50
import Derived.Test.YtghefgfacafboaaQ51
import Derived.Test.YtghefgfacafboaaQ52
import Derived.Test.YtghefgfacafboaaBase
import Derived.Test.YtghefgfacafboaaInts
namespace Go.Proofs.Ytghefgfacafboaa.Plain
open Go.RowKit Go.Proofs.YtghefgfacafboaaW.PrintWords Go.Proofs.YtghefgfacafboaaW.PrintLast
set_option linter.unusedVariables false
open Q

/-- A painting: so many people, so many colours, a colour for each pair. -/
def painted (n c : Int) (l : List Int) : Bool := (decide (0 ≤ n) && decide (n ≤ 8)) && ((decide (1 ≤ c) && decide (c ≤ 3)) && (decide ((l.length : Int) = n * (n - 1) / 2) && l.all fun x => decide (0 ≤ x) && decide (x ≤ c - 1)))

theorem szPainting_eq (n c : Int) (l : List Int) (a : Int) (h0 : 0 ≤ a) (h1 : a ≤ 1048576) (h : l.length ≤ 9223372036854775807) : laws_szPainting.f n c l a = some (if a < (l.length : Int) then -1 else a - l.length) := by
  unfold laws_szPainting.f
  rw [szIntS_eq l a h0 h1 h, Option.bind_some]
  by_cases hl : a < (l.length : Int)
  · rw [if_pos hl, if_pos (by omega)]
  · rw [if_neg hl, if_neg (by omega)]

theorem toPainting_ev (n c : Int) (l : List Int) (h : l.length ≤ 35184372088832) : Ev (fun k => laws_toPainting.f k n c l) (n, c, l) := by
  refine Ev.bind (f := fun _ t => some (n, c, t)) (toIntS_ev l h) (Ev.now _)

theorem eqPainting_ev (n c : Int) (l : List Int) (h : l.length ≤ 9223372036854775807) : Ev (fun k => laws_eqPainting.f k n c l n c l) true := by
  refine Ev.congr (f := fun k => (laws_eqIntS.f k l l).bind fun t => if t = true then some true else some false) (fun k => ?_) ?_
  · unfold laws_eqPainting.f
    rw [if_pos rfl, if_pos rfl]
  · exact Ev.bind (f := fun _ t => if t = true then some true else some false) (eqIntS_ev l h) (ev_some (fun _ => rfl))

theorem pairs_of {n : Int} (h0 : 0 ≤ n) (h1 : n ≤ 8) : wrap64 (Int.tdiv (wrap64 (n * (wrap64 (n - 1)))) 2) = n * (n - 1) / 2 := by
  have : n = 0 ∨ n = 1 ∨ n = 2 ∨ n = 3 ∨ n = 4 ∨ n = 5 ∨ n = 6 ∨ n = 7 ∨ n = 8 := by omega
  rcases this with rfl | rfl | rfl | rfl | rfl | rfl | rfl | rfl | rfl <;> decide +kernel

theorem choose_two {n : Int} (h0 : 0 ≤ n) (h1 : n ≤ 8) : Ev (fun k => impl_choose.f k n 2) (n * (n - 1) / 2) := by
  refine Ev.of (fun k => impl_choose.mono n 2 k) (k := 10) ?_
  have : n = 0 ∨ n = 1 ∨ n = 2 ∨ n = 3 ∨ n = 4 ∨ n = 5 ∨ n = 6 ∨ n = 7 ∨ n = 8 := by omega
  rcases this with rfl | rfl | rfl | rfl | rfl | rfl | rfl | rfl | rfl <;> decide +kernel

theorem ptGood_ev (n c : Int) (l : List Int) (h : l.length ≤ 9223372036854775807) : Ev (fun k => spec_ptGood.f k n c l) (painted n c l) := by
  unfold spec_ptGood.f
  refine ev_bind0 (l1In_eq _ _ _) ?_
  refine ev_if (fun b1 => ?_) (fun b1 => ?_)
  · refine ev_bind0 (l1In_eq _ _ _) ?_
    refine ev_if (fun b2 => ?_) (fun b2 => ?_)
    · have c1 : 0 ≤ n ∧ n ≤ 8 := by simpa using b1
      have c2 : 1 ≤ c ∧ c ≤ 3 := by simpa using b2
      rw [pairs_of c1.1 c1.2, wrap_id (x := c - 1) (by omega) (by omega)]
      refine ev_if (fun b3 => ?_) (fun b3 => ?_)
      · have e : painted n c l = l.all fun x => decide (0 ≤ x) && decide (x ≤ c - 1) := by
          unfold painted
          rw [b1, b2, decide_eq_true b3]; simp
        rw [e]
        exact Ev.bind (f := fun _ t => some t) (l1All_ev l _ _ h) (Ev.now _)
      · have e : painted n c l = false := by
          unfold painted
          rw [decide_eq_false b3]; simp
        rw [e]; exact Ev.now _
    · have e : painted n c l = false := by
        unfold painted
        rw [Bool.eq_false_iff.mpr b2]; simp
      rw [e]; exact Ev.now _
  · have e : painted n c l = false := by
      unfold painted
      rw [Bool.eq_false_iff.mpr b1]; simp
    rw [e]; exact Ev.now _

theorem isPainting_ev (n c : Int) (l : List Int) (h : l.length ≤ 9223372036854775807) : Ev (fun k => impl_IsPainting.f k n c l) (painted n c l) := by
  unfold impl_IsPainting.f
  have hp : impl_isPainted.f n c = some ((decide (0 ≤ n) && decide (n ≤ 8)) && (decide (1 ≤ c) && decide (c ≤ 3))) := by
    unfold impl_isPainted.f
    rw [within_eq, within_eq, Option.bind_some]
    cases (decide (0 ≤ n) && decide (n ≤ 8)) <;> simp
  refine ev_bind0 hp ?_
  refine ev_if (fun b1 => ?_) (fun b1 => ?_)
  · have c1 : (0 ≤ n ∧ n ≤ 8) ∧ (1 ≤ c ∧ c ≤ 3) := by simpa using b1
    refine Ev.bind (choose_two c1.1.1 c1.1.2) ?_
    rw [wrap_id (x := c - 1) (by omega) (by omega)]
    refine ev_if (fun b3 => ?_) (fun b3 => ?_)
    · have e : painted n c l = l.all fun x => decide (0 ≤ x) && decide (x ≤ c - 1) := by
        unfold painted
        rw [← Bool.and_assoc, b1, decide_eq_true b3]; simp
      rw [e]
      exact ev_some (fun _ => rfl)
    · have e : painted n c l = false := by
        unfold painted
        rw [decide_eq_false b3]; simp
      rw [e]; exact Ev.now _
  · have e : painted n c l = false := by
      unfold painted
      rw [← Bool.and_assoc, Bool.eq_false_iff.mpr b1]; simp
    rw [e]; exact Ev.now _
end Go.Proofs.Ytghefgfacafboaa.Plain
