/- The program's IsFriendly returns what the reference's returns, for all arguments. No condition. -/
import Derived.Test.YtipblaifgpnebaaQ0
import Derived.Test.YtipblaifgpnebaaQ12
import Derived.Test.YtipblaifgpnebaaQ29
import Derived.Test.YtipblaifgpnebaaQ35
import Derived.Test.YtipblaifgpnebaaQ38
import Derived.Test.YtipblaifgpnebaaQ39
import Derived.Test.YtipblaifgpnebaaSayFnExactIsFriendly
import Derived.Test.YtipblaifgpnebaaBase
import Derived.Test.YtipblaifgpnebaaInts
import Derived.Test.YtipblaifgpnebaaParty
import Derived.Test.YtipblaifgpnebaaGraph
import Derived.Test.YtipblaifgpnebaaTable
import Derived.Test.YtipblaifgpnebaaTableB
import Derived.Test.YtipblaifgpnebaaCount16
import Derived.Test.YtipblaifgpnebaaPartyLaw
import Derived.Test.YtipblaifgpnebaaGood
import Derived.Test.YtipblaifgpnebaaFriendship
import Derived.Test.YtipblaifgpnebaaFriendly
import Derived.Test.YtipblaifgpnebaaCommon
namespace Go.Proofs.Ytipblaifgpnebaa.Pure
open Go.RowKit Go.Proofs.YtipblaifgpnebaaW.PrintWords Go.Proofs.YtipblaifgpnebaaW.PrintLast
set_option linter.unusedVariables false
open Q Plain

/-- What both sides tell. -/
def friendly (n : Int) (l : List Pr) : Bool × Bool := if someParty n l = true then (friendlyB n.toNat (adj l), true) else (false, false)

theorem spec_ev (n : Int) (l : List Pr) (h : l.length ≤ 9223372036854775807) : Ev (fun k => spec_IsFriendly.f k n l) (friendly n l) := by
  unfold spec_IsFriendly.f
  refine Ev.bind (cfSome_ev n l h) ?_
  unfold friendly
  refine ev_if (fun b => ?_) (fun b => by rw [if_neg b]; exact Ev.now _)
  rw [if_pos b]
  have bp : party n l = true := by unfold someParty at b; simp only [Bool.and_eq_true] at b; exact b.1
  obtain ⟨m, rfl, hm, hr, _⟩ := party_right bp
  rw [Int.toNat_natCast]
  exact Ev.bind (f := fun _ t => some (t, true)) (cfFriendly_ev hm hr h) (Ev.now _)

theorem impl_ev (n : Int) (l : List Pr) (h : l.length ≤ 9223372036854775807) : Ev (fun k => impl_IsFriendly.f k n l) (friendly n l) := isFriendly_ev n l h

theorem FnExactIsFriendly : laws_FnExactIsFriendly.Pure := by
  intro n l _ hl _
  refine Ev.rounds (g := fun k => laws_FnExactIsFriendly.f k n l) ?_
  unfold laws_FnExactIsFriendly.f
  refine ev_bind0 (szParty_eq n l 1048576 (by omega) (by omega) hl) ?_
  refine ev_if (fun _ => Ev.now _) (fun hb => ?_)
  have hs : l.length ≤ 1048576 := by
    by_cases h : (1048576 : Int) < (l.length : Int)
    · rw [if_pos h] at hb; omega
    · omega
  have hT := toParty_ev n l (by omega)
  have hl2 : (l.map toP).length ≤ 9223372036854775807 := by rw [List.length_map]; exact hl
  have hs2 : (l.map toP).length ≤ 1048576 := by rw [List.length_map]; exact hs
  have hrest : ∀ x42 : Bool, x42 = false → Ev (fun k => laws_FnExactIsFriendly.j0 k x42 n l n (l.map toP)) true := by
    intro x42 he
    refine Ev.step (f := fun k => (laws_toParty.f k n l).bind fun bt => (laws_eqParty.f k n (l.map toP) bt.1 bt.2).bind fun t => if t = true then some true else some false) (fun k => ?_) ?_
    · simp only [laws_FnExactIsFriendly.j0]
      rw [if_neg (by rw [he]; simp)]
    · refine Ev.bind hT ?_
      exact Ev.bind (f := fun _ t => if t = true then some true else some false) (eqParty_ev n _ hl2) (ev_some (fun _ => rfl))
  refine Ev.bind hT ?_
  refine Ev.bind (spec_ev n _ hl2) ?_
  refine Ev.bind hT ?_
  refine Ev.bind (impl_ev n _ hl2) ?_
  refine ev_if (fun h => absurd h (by simp)) (fun _ => ?_)
  exact hrest _ (by simp)
end Go.Proofs.Ytipblaifgpnebaa.Pure
