/- The program's IsPainting returns what the reference's returns, for all arguments. No condition. -/
import Derived.Test.YtghefgfacafboaaQ0
import Derived.Test.YtghefgfacafboaaQ53
import Derived.Test.YtghefgfacafboaaSayFnExactIsPainting
import Derived.Test.YtghefgfacafboaaBase
import Derived.Test.YtghefgfacafboaaInts
import Derived.Test.YtghefgfacafboaaPaint
namespace Go.Proofs.Ytghefgfacafboaa.Pure
open Go.RowKit Go.Proofs.YtghefgfacafboaaW.PrintWords Go.Proofs.YtghefgfacafboaaW.PrintLast
set_option linter.unusedVariables false
open Q Plain

theorem FnExactIsPainting : laws_FnExactIsPainting.Pure := by
  intro n c l _ _ hl _
  refine Ev.rounds (g := fun k => laws_FnExactIsPainting.f k n c l) ?_
  unfold laws_FnExactIsPainting.f
  refine ev_bind0 (szPainting_eq n c l 1048576 (by omega) (by omega) hl) ?_
  refine ev_if (fun _ => Ev.now _) (fun b => ?_)
  have hs : l.length ≤ 1048576 := by
    by_cases h : (1048576 : Int) < (l.length : Int)
    · rw [if_pos h] at b; omega
    · omega
  refine Ev.bind (toPainting_ev n c l (by omega)) ?_
  refine Ev.bind (a := painted n c l) ?_ ?_
  · exact Ev.bind (f := fun _ t => some t) (ptGood_ev n c l hl) (Ev.now _)
  refine Ev.bind (toPainting_ev n c l (by omega)) ?_
  refine Ev.bind (isPainting_ev n c l hl) ?_
  refine ev_if (fun h => absurd h (by simp)) (fun _ => ?_)
  refine Ev.bind (toPainting_ev n c l (by omega)) ?_
  refine Ev.bind (eqPainting_ev n c l hl) ?_
  exact ev_some (fun _ => rfl)
end Go.Proofs.Ytghefgfacafboaa.Pure
