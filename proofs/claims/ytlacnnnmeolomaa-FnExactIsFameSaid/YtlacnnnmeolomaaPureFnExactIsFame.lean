/- The program's IsFame returns what the reference's returns, for all arguments. No condition. -/
import Derived.Test.YtlacnnnmeolomaaQ0
import Derived.Test.YtlacnnnmeolomaaQ33
import Derived.Test.YtlacnnnmeolomaaSayFnExactIsFame
import Derived.Test.YtlacnnnmeolomaaBase
import Derived.Test.YtlacnnnmeolomaaInts
import Derived.Test.YtlacnnnmeolomaaHas
import Derived.Test.YtlacnnnmeolomaaIdx
import Derived.Test.YtlacnnnmeolomaaRise
import Derived.Test.YtlacnnnmeolomaaIntSS
import Derived.Test.YtlacnnnmeolomaaFame
namespace Go.Proofs.Ytlacnnnmeolomaa.Pure
open Go.RowKit Go.Proofs.YtlacnnnmeolomaaW.PrintWords Go.Proofs.YtlacnnnmeolomaaW.PrintLast
set_option linter.unusedVariables false
open Q Plain

theorem FnExactIsFame : laws_FnExactIsFame.Pure := by
  intro l hl hx
  refine Ev.rounds (g := fun k => laws_FnExactIsFame.f k l) ?_
  unfold laws_FnExactIsFame.f
  refine Ev.bind (szIntSS_ev l 1048576 (by omega) (by omega) hl (fun x h => (hx x h).1)) ?_
  refine ev_if (fun _ => Ev.now _) (fun b => ?_)
  have hs : l.length ≤ 1048576 := by
    by_cases h : (1048576 : Int) < (l.length : Int)
    · rw [if_pos h] at b; omega
    · omega
  rw [if_neg (by omega)] at b
  have hr : ∀ x ∈ l, x.length ≤ 1048576 := fun x h => by
    have := szR_len l (1048576 - l.length) (by omega) (by omega) x h
    omega
  have hT := toIntSS_ev l (by omega) (fun x h => by have := hr x h; omega)
  refine Ev.bind hT ?_
  refine Ev.bind (a := fame l) (Ev.bind (f := fun _ t => some t) (haFame_ev l hs hr) (Ev.now _)) ?_
  refine Ev.bind hT ?_
  refine Ev.bind (isFame_ev l hs hr) ?_
  refine ev_if (fun h => absurd h (by simp)) (fun _ => ?_)
  refine Ev.bind hT ?_
  refine Ev.bind (eqIntSS_ev l (by omega) (fun x h => by have := hr x h; omega)) ?_
  exact ev_some (fun _ => rfl)
end Go.Proofs.Ytlacnnnmeolomaa.Pure
