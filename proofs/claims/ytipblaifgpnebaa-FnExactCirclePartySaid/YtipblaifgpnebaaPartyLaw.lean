/- The law's own functions over parties, and the reference's test. No condition but lengths that fit. -/
import Derived.Test.YtipblaifgpnebaaQ0
import Derived.Test.YtipblaifgpnebaaQ1
import Derived.Test.YtipblaifgpnebaaQ2
import Derived.Test.YtipblaifgpnebaaQ11
import Derived.Test.YtipblaifgpnebaaQ12
import Derived.Test.YtipblaifgpnebaaQ27
import Derived.Test.YtipblaifgpnebaaQ28
import Derived.Test.YtipblaifgpnebaaQ29
import Derived.Test.YtipblaifgpnebaaBase
import Derived.Test.YtipblaifgpnebaaInts
import Derived.Test.YtipblaifgpnebaaParty
import Derived.Test.YtipblaifgpnebaaGraph
namespace Go.Proofs.Ytipblaifgpnebaa.Plain
open Go.RowKit Go.Proofs.YtipblaifgpnebaaW.PrintWords Go.Proofs.YtipblaifgpnebaaW.PrintLast
set_option linter.unusedVariables false
open Q

abbrev Lp := S67
/-- A pair of the law's as a pair of the program's. -/
def toP (x : Lp) : Pr := ⟨x.f0, x.f1⟩

theorem szParty_eq (n : Int) (l : List Lp) (a : Int) (h0 : 0 ≤ a) (h1 : a ≤ 1048576) (h : l.length ≤ 9223372036854775807) : laws_szParty.f n l a = some (if a < (l.length : Int) then -1 else a - l.length) := by
  unfold laws_szParty.f laws_szPairS.f
  rw [wrap_id (by omega) (by omega)]
  by_cases hl : a < (l.length : Int)
  · rw [if_pos (by omega), Option.bind_some, if_pos (by omega), if_pos hl]
  · rw [if_neg (by omega), Option.bind_some, if_neg (by omega), if_neg hl]

theorem rdLp_at {l : List Lp} {i : Nat} (h : i < l.length) : rd_T67 l (i : Int) = l[i] := by
  simp [rd_T67, List.getD, h]

theorem copy_map {α β : Type} (z : β) (g : α → β) (l : List α) (i : Nat) (h : i < l.length) :
    ((l.map g).take i ++ List.replicate (l.length - i) z).set ((i : Int)).toNat (g l[i]) = (l.map g).take (i + 1) ++ List.replicate (l.length - (i + 1)) z := by
  have e : l.length - i = (l.length - (i + 1)) + 1 := by omega
  have hl : ((l.map g).take i).length = i := by simp; omega
  have hm : i < (l.map g).length := by simpa using h
  rw [Int.toNat_natCast, e, List.replicate_succ, List.set_append_right _ _ (by omega), hl, Nat.sub_self, List.set_cons_zero, List.take_succ_eq_append_getElem hm, List.append_assoc, List.getElem_map]
  rfl

theorem toPairS_ev (l : List Lp) (h : l.length ≤ 17592186044416) : Ev (fun k => laws_toPairS.f k l) (l.map toP) := by
  refine Ev.congr (f := fun k => laws_toPairS.l0 k l (List.replicate l.length z63) 0) (fun k => ?_) ?_
  · unfold laws_toPairS.f
    rw [if_pos (by omega), if_pos (by omega), Int.toNat_natCast]
  · have q := ev_up (n := l.length) (loop := fun k i => laws_toPairS.l0 k l ((l.map toP).take i ++ List.replicate (l.length - i) z63) (i : Int)) (r := fun _ => l.map toP)
      (Ev.step (f := fun _ => some (l.map toP)) (fun k => by
        simp only [laws_toPairS.l0]
        rw [if_neg (by omega), Nat.sub_self, List.replicate_zero, List.append_nil, List.take_of_length_le (by simp)]) (Ev.now _))
      (fun i hi ih => Ev.step (f := fun k => laws_toPairS.l0 k l ((l.map toP).take (i + 1) ++ List.replicate (l.length - (i + 1)) z63) ((i + 1 : Nat) : Int)) (fun k => by
        simp only [laws_toPairS.l0]
        rw [if_pos (by omega), if_pos (by omega), rdLp_at hi]
        show (if (i : Int) < _ then laws_toPairS.l0 k l (List.set _ _ (toP l[i])) _ else none) = _
        rw [if_pos (by simp; omega), copy_map _ toP l i hi, succ_cast hi (by omega)]) ih) 0 (Nat.zero_le _)
    simpa using q

theorem toParty_ev (n : Int) (l : List Lp) (h : l.length ≤ 17592186044416) : Ev (fun k => laws_toParty.f k n l) (n, l.map toP) := by
  unfold laws_toParty.f
  exact Ev.bind (f := fun _ t => some (n, t)) (toPairS_ev l h) (Ev.now _)

theorem eqPair_eq (x : Pr) : laws_eqPair.f x.f0 x.f1 x.f0 x.f1 = some true := by
  unfold laws_eqPair.f
  rw [if_pos rfl, if_pos rfl]

theorem eqPairS_ev (l : List Pr) (h : l.length ≤ 9223372036854775807) : Ev (fun k => laws_eqPairS.f k l l) true := by
  refine Ev.congr (f := fun k => laws_eqPairS.l0 k l l 0) (fun k => ?_) ?_
  · unfold laws_eqPairS.f
    rw [if_pos rfl]
  · exact ev_up (n := l.length) (loop := fun k i => laws_eqPairS.l0 k l l (i : Int)) (r := fun _ => true)
      (Ev.step (f := fun _ => some true) (fun k => by simp [laws_eqPairS.l0]) (Ev.now true))
      (fun i hi ih => Ev.step (f := fun k => laws_eqPairS.l0 k l l ((i + 1 : Nat) : Int)) (fun k => by
        simp only [laws_eqPairS.l0]
        rw [if_pos (by omega), if_pos (by omega), if_pos (by omega), rdP_at hi, eqPair_eq, Option.bind_some, if_pos rfl, succ_cast hi h]) ih) 0 (Nat.zero_le _)

theorem eqParty_ev (n : Int) (l : List Pr) (h : l.length ≤ 9223372036854775807) : Ev (fun k => laws_eqParty.f k n l n l) true := by
  refine Ev.congr (f := fun k => (laws_eqPairS.f k l l).bind fun t => if t = true then some true else some false) (fun k => ?_) ?_
  · unfold laws_eqParty.f
    rw [if_pos rfl]
  · exact Ev.bind (f := fun _ t => if t = true then some true else some false) (eqPairS_ev l h) (ev_some (fun _ => rfl))
end Go.Proofs.Ytipblaifgpnebaa.Plain
