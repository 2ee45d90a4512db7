/- NumbersOfFriends, the least of them, and what a law over a party needs. No condition but lengths that fit. -/
import Derived.Test.YtipblaifgpnebaaQ0
import Derived.Test.YtipblaifgpnebaaQ24
import Derived.Test.YtipblaifgpnebaaBase
import Derived.Test.YtipblaifgpnebaaInts
import Derived.Test.YtipblaifgpnebaaParty
import Derived.Test.YtipblaifgpnebaaGraph
import Derived.Test.YtipblaifgpnebaaTable
import Derived.Test.YtipblaifgpnebaaCount16
import Derived.Test.YtipblaifgpnebaaNums
namespace Go.Proofs.Ytipblaifgpnebaa.Plain
open Go.RowKit Go.Proofs.YtipblaifgpnebaaW.PrintWords Go.Proofs.YtipblaifgpnebaaW.PrintLast
set_option linter.unusedVariables false
open Q

theorem numbersOfFriends_ev (n : Int) (l : List Pr) (h : l.length ≤ 9223372036854775807) :
    Ev (fun k => impl_NumbersOfFriends.f k n l) (if party n l = true then (numsF n.toNat (adj l), true) else ([], false)) := by
  unfold impl_NumbersOfFriends.f
  refine Ev.bind (isParty_ev n l h) ?_
  refine ev_if (fun b => ?_) (fun b => by rw [if_neg b]; exact Ev.now _)
  obtain ⟨m, rfl, hm, hr, _⟩ := party_right b
  rw [if_pos b, Int.toNat_natCast]
  refine Ev.bind (table_ev hm hr h) ?_
  exact Ev.bind (f := fun _ t => some (t, true)) (numbers_ev hm (adj l)) (Ev.now _)
end Go.Proofs.Ytipblaifgpnebaa.Plain
