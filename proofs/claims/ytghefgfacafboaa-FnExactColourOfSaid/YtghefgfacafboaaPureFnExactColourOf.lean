/- The program's ColourOf returns what the reference's returns, for all arguments. No condition. -/
import Derived.Test.YtghefgfacafboaaQ0
import Derived.Test.YtghefgfacafboaaQ46
import Derived.Test.YtghefgfacafboaaQ52
import Derived.Test.YtghefgfacafboaaQ121
import Derived.Test.YtghefgfacafboaaSayFnExactColourOf
import Derived.Test.YtghefgfacafboaaBase
import Derived.Test.YtghefgfacafboaaInts
import Derived.Test.YtghefgfacafboaaPaint
import Derived.Test.YtghefgfacafboaaPlace
namespace Go.Proofs.Ytghefgfacafboaa.Pure
open Go.RowKit Go.Proofs.YtghefgfacafboaaW.PrintWords Go.Proofs.YtghefgfacafboaaW.PrintLast
set_option linter.unusedVariables false
open Q Plain

theorem FnExactColourOf : laws_FnExactColourOf.Pure := by
  intro n c l a b _ _ hl _ _ _
  refine Ev.rounds (g := fun k => laws_FnExactColourOf.f k n c l a b) ?_
  unfold laws_FnExactColourOf.f
  refine ev_bind0 (szPainting_eq n c l 1048576 (by omega) (by omega) hl) ?_
  refine ev_if (fun _ => Ev.now _) (fun hb => ?_)
  have hs : l.length ≤ 1048576 := by
    by_cases h : (1048576 : Int) < (l.length : Int)
    · rw [if_pos h] at hb; omega
    · omega
  have hT := toPainting_ev n c l (by omega)
  have hrest : ∀ x42 : Bool, x42 = false → Ev (fun k => laws_FnExactColourOf.j0 k x42 n c l n c l) true := by
    intro x42 hx
    refine Ev.step (f := fun k => (laws_toPainting.f k n c l).bind fun bt => (laws_eqPainting.f k n c l bt.1 bt.2.1 bt.2.2).bind fun t => if t = true then some true else some false) (fun k => ?_) ?_
    · simp only [laws_FnExactColourOf.j0]
      rw [if_neg (by rw [hx]; simp)]
    · refine Ev.bind hT ?_
      exact Ev.bind (f := fun _ t => if t = true then some true else some false) (eqPainting_ev n c l hl) (ev_some (fun _ => rfl))
  refine Ev.bind hT ?_
  refine Ev.bind (specColourOf_ev n c l a b hl) ?_
  refine Ev.bind hT ?_
  refine Ev.bind (implColourOf_ev n c l a b hl) ?_
  refine ev_if (fun _ => ?_) (fun h => absurd rfl h)
  exact hrest _ (by simp)
end Go.Proofs.Ytghefgfacafboaa.Pure
