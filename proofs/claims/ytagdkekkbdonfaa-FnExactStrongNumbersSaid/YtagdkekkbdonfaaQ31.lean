import Derived.Test.YtagdkekkbdonfaaQ0
import Derived.Test.YtagdkekkbdonfaaQ15
import Derived.Test.YtagdkekkbdonfaaQ23
import Derived.Test.YtagdkekkbdonfaaQ26
import Derived.Test.YtagdkekkbdonfaaCompact
import Derived.Test.YtagdkekkbdonfaaQ28
import Derived.Test.YtagdkekkbdonfaaQ29
import Derived.Test.YtagdkekkbdonfaaQ30
namespace Go.Proofs.Ytagdkekkbdonfaa.Q
open Go.RowKit Go.Proofs.YtagdkekkbdonfaaW.PrintWords Go.Proofs.YtagdkekkbdonfaaW.PrintLast Go.Proofs.YtagdkekkbdonfaaW.PrintMore
attribute [local go_sem] max2_int min2_int max_two min_two max_three min_three max_four min_four   -- for this text's walks alone
set_option linter.unusedVariables false
set_option linter.unusedSimpArgs false

/-! ### impl_EqualNumber: function 38 (proved by hand) -/
/-- The equal number, if there is one. -/
def impl_EqualNumber.f (k : Nat) (a0_0 : Int) (l0_1 : List (S71)) : Option (Int × Bool) := (impl_isCrowded.f k a0_0 l0_1).bind fun b => if b = true then ((impl_Party_table.f k a0_0 l0_1).bind fun t => (impl_table_numbers.f k t).bind fun q => if 1 < ((Go.Lib.compact q).length : Int) then some (0, false) else if 0 < ((Go.Lib.compact q).length : Int) then some (rd (Go.Lib.compact q) 0, true) else none) else some (0, false)
theorem impl_EqualNumber.mono : ∀ a0 a1 k, LeO (impl_EqualNumber.f k a0 a1) (impl_EqualNumber.f (k + 1) a0 a1) := by
 intro a0 a1 k
 unfold impl_EqualNumber.f
 exact LeO.bind (impl_isCrowded.mono _ _ _) (fun _ => LeO.ite (LeO.bind (impl_Party_table.mono _ _ _) (fun _ => LeO.bind (impl_table_numbers.mono _ _) (fun _ => LeO.refl _))) (LeO.refl _))
theorem at_zero {W : World} {ad : Addr} {v : Value} (h : W.cell? (ad.add (0 : Int).toNat) = some v) : W.cell? ad = some v := by simpa [Addr.add] using h
set_option maxHeartbeats 8000000 in
set_option maxRecDepth 100000 in
theorem impl_EqualNumber.calls (k : Nat) (a0_0 : Int) (A0_1 : Option Addr) (c0_1 : Nat) (l0_1 : List (S71)) (r1 : Int) (r2 : Bool) (w : World) (hr0_1 : Kd.C k71 w A0_1 l0_1.length l0_1) (hc0_1 : l0_1.length ≤ c0_1) (h : impl_EqualNumber.f k a0_0 l0_1 = some (r1, r2)) :
  Calls Try.prog 38 #[.agg #[.int .i64 a0_0, .slice A0_1 l0_1.length c0_1]] w fun e w' => e = .returned (.tuple #[.int .i64 r1, .bool r2]) ∧ Below w.heap.size w w' := by
 have hu := Try.underlying31
 have HR0 := Aside0.mk hr0_1
 clear hr0_1
 unfold impl_EqualNumber.f at h
 obtain ⟨b, hb1, h⟩ := Option.bind_eq_some_iff.1 h
 have A1 := Aside0.mk hb1
 clear hb1
 cases b with
 | false =>
  rw [if_neg (by simp)] at h
  simp only [Option.some.injEq, Prod.mk.injEq] at h
  obtain ⟨rfl, rfl⟩ := h
  go_enter Try.func38, Try.ntmps38
  go_wp2_with (first | ((with_reducible refine gate_dst (N := 1) rfl ?_); refine box_event ?hg (N := 1) ?hd (cs := #[.int .i64 a0_0, .slice A0_1 l0_1.length c0_1]) (t := 31) ?hr ?_; (case hd => rfl); (case hg => rfl); (case hr => first | (go_simp; done) | (go_simp; rfl)); intro gb hg w5 hbox hb; have HB := Aside0.mk (below_step (Below.refl w.heap.size w) hb); have BK := Aside0.mk hbox; have hz0 : w5.cell? ⟨gb, 0, none⟩ = some (.int .i64 a0_0) := (blk_cell hbox 0).trans rfl; have hz1 : w5.cell? ⟨gb, 1, none⟩ = some (.slice A0_1 l0_1.length c0_1) := (blk_cell hbox 1).trans rfl; have HR5 := Aside0.mk (Kd.C_below HR0.out HB.out); clear hg hb hbox) | (go_at_call 64; (with_reducible refine (impl_isCrowded.calls k a0_0 A0_1 c0_1 l0_1 _ _ ?k1 hc0_1 A1.out).mono ?_); (case k1 => repeat (first | exact HR5.out | (with_reducible refine Kd.C_alloc ?_ _) | (with_reducible refine Kd.C_drewN ?_ _) | (with_reducible refine Kd.C_drew ?_))); rintro e w6 ⟨rfl, hb⟩; have HB6 := Aside0.mk (below_step (by repeat (first | (with_reducible first | exact HB.out | apply below_alloc | apply pw_below_drewN | apply below_drew1) | exact HB.out)) hb : Below w.heap.size w w6); have BK6 := Aside0.mk (blk_below (g := gb) (o := (.cells #[.int .i64 a0_0, .slice A0_1 l0_1.length c0_1] 31 (0, 0))) (by (with_reducible repeat (first | refine blk_drewN ?_ _ | refine blk_drew ?_ | refine blk_alloc ?_ _)); exact BK.out) hb); have hz06 : w6.cell? ⟨gb, 0, none⟩ = some (.int .i64 a0_0) := (blk_cell BK6.out 0).trans rfl; have hz16 : w6.cell? ⟨gb, 1, none⟩ = some (.slice A0_1 l0_1.length c0_1) := (blk_cell BK6.out 1).trans rfl; have HR6 := Aside0.mk (Kd.C_below HR0.out HB6.out); clear hb))
  go_ret2
  exact ⟨by first | rfl | (simp; done) | (simp [*]; done), by repeat (first | (with_reducible first | exact HB6.out | apply below_alloc | apply pw_below_drewN | apply below_drew1) | exact HB6.out)⟩
 | true =>
  rw [if_pos rfl] at h
  obtain ⟨t, ht, h⟩ := Option.bind_eq_some_iff.1 h
  obtain ⟨q, hq, h⟩ := Option.bind_eq_some_iff.1 h
  have A2 := Aside0.mk ht
  have A3 := Aside0.mk hq
  clear ht hq
  by_cases c1 : 1 < ((Go.Lib.compact q).length : Int)
  ·rw [if_pos c1] at h
   simp only [Option.some.injEq, Prod.mk.injEq] at h
   obtain ⟨rfl, rfl⟩ := h
   have d1 : decide (1 < ((Go.Lib.compact q).length : Int)) = true := decide_eq_true c1
   go_enter Try.func38, Try.ntmps38
   go_wp2_with (first | ((with_reducible refine gate_dst (N := 1) rfl ?_); refine box_event ?hg (N := 1) ?hd (cs := #[.int .i64 a0_0, .slice A0_1 l0_1.length c0_1]) (t := 31) ?hr ?_; (case hd => rfl); (case hg => rfl); (case hr => first | (go_simp; done) | (go_simp; rfl)); intro gb hg w5 hbox hb; have HB := Aside0.mk (below_step (Below.refl w.heap.size w) hb); have BK := Aside0.mk hbox; have hz0 : w5.cell? ⟨gb, 0, none⟩ = some (.int .i64 a0_0) := (blk_cell hbox 0).trans rfl; have hz1 : w5.cell? ⟨gb, 1, none⟩ = some (.slice A0_1 l0_1.length c0_1) := (blk_cell hbox 1).trans rfl; have HR5 := Aside0.mk (Kd.C_below HR0.out HB.out); clear hg hb hbox) | (go_at_call 64; (with_reducible refine (impl_isCrowded.calls k a0_0 A0_1 c0_1 l0_1 _ _ ?k1 hc0_1 A1.out).mono ?_); (case k1 => repeat (first | exact HR5.out | (with_reducible refine Kd.C_alloc ?_ _) | (with_reducible refine Kd.C_drewN ?_ _) | (with_reducible refine Kd.C_drew ?_))); rintro e w6 ⟨rfl, hb⟩; have HB6 := Aside0.mk (below_step (by repeat (first | (with_reducible first | exact HB.out | apply below_alloc | apply pw_below_drewN | apply below_drew1) | exact HB.out)) hb : Below w.heap.size w w6); have BK6 := Aside0.mk (blk_below (g := gb) (o := (.cells #[.int .i64 a0_0, .slice A0_1 l0_1.length c0_1] 31 (0, 0))) (by (with_reducible repeat (first | refine blk_drewN ?_ _ | refine blk_drew ?_ | refine blk_alloc ?_ _)); exact BK.out) hb); have hz06 : w6.cell? ⟨gb, 0, none⟩ = some (.int .i64 a0_0) := (blk_cell BK6.out 0).trans rfl; have hz16 : w6.cell? ⟨gb, 1, none⟩ = some (.slice A0_1 l0_1.length c0_1) := (blk_cell BK6.out 1).trans rfl; have HR6 := Aside0.mk (Kd.C_below HR0.out HB6.out); clear hb) | (go_at_call 39; (with_reducible refine (impl_Party_table.calls k a0_0 A0_1 c0_1 l0_1 t _ ?k1 hc0_1 A2.out).mono ?_); (case k1 => repeat (first | exact HR6.out | (with_reducible refine Kd.C_alloc ?_ _) | (with_reducible refine Kd.C_drewN ?_ _) | (with_reducible refine Kd.C_drew ?_))); rintro e w7 ⟨v7, rfl, ho, hb⟩; have HB7 := Aside0.mk (below_step (by repeat (first | (with_reducible first | exact HB6.out | apply below_alloc | apply pw_below_drewN | apply below_drew1) | exact HB6.out)) hb : Below w.heap.size w w7); obtain ⟨A6, c6, e6, hc6, hC6⟩ := Kd.R_reads ho; subst e6; replace hC6 := Aside0.mk hC6; clear ho hb) | (go_at_call 66; (with_reducible refine (impl_table_numbers.calls k A6 c6 t q _ ?k1 hc6 A3.out).mono ?_); (case k1 => repeat (first | exact hC6.out | (with_reducible refine Kd.C_alloc ?_ _) | (with_reducible refine Kd.C_drewN ?_ _) | (with_reducible refine Kd.C_drew ?_))); rintro e w8 ⟨v8, rfl, ho, hb⟩; have HO := Aside0.mk (Kd.R_lower ho (below_size (w := w) (by repeat (first | (with_reducible first | exact HB7.out | apply below_alloc | apply pw_below_drewN | apply below_drew1) | exact HB7.out)))); have HB8 := Aside0.mk (below_step (by repeat (first | (with_reducible first | exact HB7.out | apply below_alloc | apply pw_below_drewN | apply below_drew1) | exact HB7.out)) hb : Below w.heap.size w w8); clear ho hb; obtain ⟨A9, c9, e9⟩ := Kd.R_slice HO.out; subst e9) | (go_at_call 65; refine (compact.calls A9 c9 q w.heap.size _ ?k1 ?k2).mono ?_; (case k1 => (with_reducible repeat (first | apply Kd.R_alloc | apply Kd.R_drewN | apply Kd.R_drew)); exact HO.out); (case k2 => exact below_size (by repeat (first | (with_reducible first | exact HB8.out | apply below_alloc | apply pw_below_drewN | apply below_drew1) | exact HB8.out))); rintro e w9 ⟨A8, c8, rfl, ho, hb⟩; have HB9 := Aside0.mk ((by repeat (first | (with_reducible first | exact HB8.out | apply below_alloc | apply pw_below_drewN | apply below_drew1) | exact HB8.out) : Below w.heap.size w _).trans hb); have HC9 := Aside0.mk (Kd.R_reads' ho).2.2; clear ho hb))
   go_ret2
   exact ⟨by first | rfl | (simp; done) | (simp [*]; done), by repeat (first | (with_reducible first | exact HB9.out | apply below_alloc | apply pw_below_drewN | apply below_drew1) | exact HB9.out)⟩
  ·rw [if_neg c1] at h
   by_cases c2 : 0 < ((Go.Lib.compact q).length : Int)
   ·rw [if_pos c2] at h
    simp only [Option.some.injEq, Prod.mk.injEq] at h
    obtain ⟨rfl, rfl⟩ := h
    have d1 : decide (1 < ((Go.Lib.compact q).length : Int)) = false := decide_eq_false c1
    have c3 : 0 < (Go.Lib.compact q).length := by omega
    go_enter Try.func38, Try.ntmps38
    go_wp2_with (first | ((with_reducible refine gate_dst (N := 1) rfl ?_); refine box_event ?hg (N := 1) ?hd (cs := #[.int .i64 a0_0, .slice A0_1 l0_1.length c0_1]) (t := 31) ?hr ?_; (case hd => rfl); (case hg => rfl); (case hr => first | (go_simp; done) | (go_simp; rfl)); intro gb hg w5 hbox hb; have HB := Aside0.mk (below_step (Below.refl w.heap.size w) hb); have BK := Aside0.mk hbox; have hz0 : w5.cell? ⟨gb, 0, none⟩ = some (.int .i64 a0_0) := (blk_cell hbox 0).trans rfl; have hz1 : w5.cell? ⟨gb, 1, none⟩ = some (.slice A0_1 l0_1.length c0_1) := (blk_cell hbox 1).trans rfl; have HR5 := Aside0.mk (Kd.C_below HR0.out HB.out); clear hg hb hbox) | (go_at_call 64; (with_reducible refine (impl_isCrowded.calls k a0_0 A0_1 c0_1 l0_1 _ _ ?k1 hc0_1 A1.out).mono ?_); (case k1 => repeat (first | exact HR5.out | (with_reducible refine Kd.C_alloc ?_ _) | (with_reducible refine Kd.C_drewN ?_ _) | (with_reducible refine Kd.C_drew ?_))); rintro e w6 ⟨rfl, hb⟩; have HB6 := Aside0.mk (below_step (by repeat (first | (with_reducible first | exact HB.out | apply below_alloc | apply pw_below_drewN | apply below_drew1) | exact HB.out)) hb : Below w.heap.size w w6); have BK6 := Aside0.mk (blk_below (g := gb) (o := (.cells #[.int .i64 a0_0, .slice A0_1 l0_1.length c0_1] 31 (0, 0))) (by (with_reducible repeat (first | refine blk_drewN ?_ _ | refine blk_drew ?_ | refine blk_alloc ?_ _)); exact BK.out) hb); have hz06 : w6.cell? ⟨gb, 0, none⟩ = some (.int .i64 a0_0) := (blk_cell BK6.out 0).trans rfl; have hz16 : w6.cell? ⟨gb, 1, none⟩ = some (.slice A0_1 l0_1.length c0_1) := (blk_cell BK6.out 1).trans rfl; have HR6 := Aside0.mk (Kd.C_below HR0.out HB6.out); clear hb) | (go_at_call 39; (with_reducible refine (impl_Party_table.calls k a0_0 A0_1 c0_1 l0_1 t _ ?k1 hc0_1 A2.out).mono ?_); (case k1 => repeat (first | exact HR6.out | (with_reducible refine Kd.C_alloc ?_ _) | (with_reducible refine Kd.C_drewN ?_ _) | (with_reducible refine Kd.C_drew ?_))); rintro e w7 ⟨v7, rfl, ho, hb⟩; have HB7 := Aside0.mk (below_step (by repeat (first | (with_reducible first | exact HB6.out | apply below_alloc | apply pw_below_drewN | apply below_drew1) | exact HB6.out)) hb : Below w.heap.size w w7); obtain ⟨A6, c6, e6, hc6, hC6⟩ := Kd.R_reads ho; subst e6; replace hC6 := Aside0.mk hC6; clear ho hb) | (go_at_call 66; (with_reducible refine (impl_table_numbers.calls k A6 c6 t q _ ?k1 hc6 A3.out).mono ?_); (case k1 => repeat (first | exact hC6.out | (with_reducible refine Kd.C_alloc ?_ _) | (with_reducible refine Kd.C_drewN ?_ _) | (with_reducible refine Kd.C_drew ?_))); rintro e w8 ⟨v8, rfl, ho, hb⟩; have HO := Aside0.mk (Kd.R_lower ho (below_size (w := w) (by repeat (first | (with_reducible first | exact HB7.out | apply below_alloc | apply pw_below_drewN | apply below_drew1) | exact HB7.out)))); have HB8 := Aside0.mk (below_step (by repeat (first | (with_reducible first | exact HB7.out | apply below_alloc | apply pw_below_drewN | apply below_drew1) | exact HB7.out)) hb : Below w.heap.size w w8); clear ho hb; obtain ⟨A9, c9, e9⟩ := Kd.R_slice HO.out; subst e9) | (go_at_call 65; refine (compact.calls A9 c9 q w.heap.size _ ?k1 ?k2).mono ?_; (case k1 => (with_reducible repeat (first | apply Kd.R_alloc | apply Kd.R_drewN | apply Kd.R_drew)); exact HO.out); (case k2 => exact below_size (by repeat (first | (with_reducible first | exact HB8.out | apply below_alloc | apply pw_below_drewN | apply below_drew1) | exact HB8.out))); rintro e w9 ⟨A8, c8, rfl, ho, hb⟩; have HB9 := Aside0.mk ((by repeat (first | (with_reducible first | exact HB8.out | apply below_alloc | apply pw_below_drewN | apply below_drew1) | exact HB8.out) : Below w.heap.size w _).trans hb); have HC9 := Aside0.mk (Kd.R_reads' ho).2.2; clear ho hb; obtain ⟨ad, ea, hx⟩ := Kd.at_int HC9.out (0 : Int) (by omega) (by omega); subst ea; replace hx := at_zero hx))
    go_ret2
    exact ⟨by first | rfl | (simp; done) | (simp [*]; done), by repeat (first | (with_reducible first | exact HB9.out | apply below_alloc | apply pw_below_drewN | apply below_drew1) | exact HB9.out)⟩
   ·rw [if_neg c2] at h; cases h

end Go.Proofs.Ytagdkekkbdonfaa.Q
namespace Go.Proofs.Ytagdkekkbdonfaa.Q
open Go.RowKit Go.Proofs.YtagdkekkbdonfaaW.PrintWords Go.Proofs.YtagdkekkbdonfaaW.PrintLast Go.Proofs.YtagdkekkbdonfaaW.PrintMore
attribute [local go_sem] max2_int min2_int max_two min_two max_three min_three max_four min_four   -- for this text's walks alone
set_option linter.unusedVariables false
set_option linter.unusedSimpArgs false

/-! ### impl_StrongNumbers: function 10 (proved by hand) -/
mutual
/-- The common friends of those of whom something holds, row by row; does one number serve for all. -/
def impl_StrongNumbers_1.l0 : Nat → List Int → List Int → Int → Bool → Int → Option (Int × Bool)
 | 0, _, _, _, _, _ => none
 | k + 1, t, h, out, ok, x => if x < (t.length : Int) then impl_StrongNumbers_1.l1 k t h out ok x 0 else some (out, ok)
def impl_StrongNumbers_1.l1 : Nat → List Int → List Int → Int → Bool → Int → Int → Option (Int × Bool)
 | 0, _, _, _, _, _, _ => none
 | k + 1, t, h, out, ok, x, y => if y < x then ((impl_table_common.f t x y).bind fun n => (impl_table_has.f h x y).bind fun b => if b = true then impl_StrongNumbers_1.l1 k t h n (if 0 ≤ out then (if n = out then ok else false) else ok) x (wrap64 (y + 1)) else impl_StrongNumbers_1.l1 k t h out ok x (wrap64 (y + 1))) else impl_StrongNumbers_1.l0 k t h out ok (wrap64 (x + 1))
end
def impl_StrongNumbers_1.f (k : Nat) (t h : List Int) (ok : Bool) : Option (Int × Bool) := impl_StrongNumbers_1.l0 k t h (-1) ok 0
theorem impl_StrongNumbers_1.mono_l : ∀ k, (∀ y0 y1 y2 y3 y4, LeO (impl_StrongNumbers_1.l0 k y0 y1 y2 y3 y4) (impl_StrongNumbers_1.l0 (k + 1) y0 y1 y2 y3 y4)) ∧ (∀ y0 y1 y2 y3 y4 y5, LeO (impl_StrongNumbers_1.l1 k y0 y1 y2 y3 y4 y5) (impl_StrongNumbers_1.l1 (k + 1) y0 y1 y2 y3 y4 y5))
 | 0 => ⟨fun _ _ _ _ _ r h => by simp [impl_StrongNumbers_1.l0] at h, fun _ _ _ _ _ _ r h => by simp [impl_StrongNumbers_1.l1] at h⟩
 | k + 1 => by
  obtain ⟨ih0, ih1⟩ := impl_StrongNumbers_1.mono_l k
  refine ⟨?_, ?_⟩
  ·intro y0 y1 y2 y3 y4
   unfold impl_StrongNumbers_1.l0
   exact LeO.ite (ih1 _ _ _ _ _ _) (LeO.refl _)
  ·intro y0 y1 y2 y3 y4 y5
   unfold impl_StrongNumbers_1.l1
   exact LeO.ite (LeO.bind (LeO.refl _) (fun _ => LeO.bind (LeO.refl _) (fun _ => LeO.ite (ih1 _ _ _ _ _ _) (ih1 _ _ _ _ _ _)))) (ih0 _ _ _ _ _)
theorem impl_StrongNumbers_1.mono (t h : List Int) (ok : Bool) (k : Nat) : LeO (impl_StrongNumbers_1.f k t h ok) (impl_StrongNumbers_1.f (k + 1) t h ok) := (impl_StrongNumbers_1.mono_l k).1 _ _ _ _ _
/-- The numbers of a strong party. -/
def impl_StrongNumbers.f (k : Nat) (a0_0 : Int) (l0_1 : List (S71)) : Option (List Int × Bool) := (impl_EqualNumber.f k a0_0 l0_1).bind fun q => if q.2 = true then ((impl_Party_table.f k a0_0 l0_1).bind fun t => (impl_StrongNumbers_1.f k t t true).bind fun p => (impl_table_others.f k t).bind fun o => (impl_StrongNumbers_1.f k t o p.2).bind fun s => if s.2 = true then (if p.1 < 0 then some ([], false) else if s.1 < 0 then some ([], false) else some ([a0_0, q.1, p.1, s.1], true)) else some ([], false)) else some ([], false)
theorem impl_StrongNumbers.mono : ∀ a0 a1 k, LeO (impl_StrongNumbers.f k a0 a1) (impl_StrongNumbers.f (k + 1) a0 a1) := by
 intro a0 a1 k
 unfold impl_StrongNumbers.f
 exact LeO.bind (impl_EqualNumber.mono _ _ _) (fun _ => LeO.ite (LeO.bind (impl_Party_table.mono _ _ _) (fun _ => LeO.bind (impl_StrongNumbers_1.mono _ _ _ _) (fun _ => LeO.bind (impl_table_others.mono _ _) (fun _ => LeO.bind (impl_StrongNumbers_1.mono _ _ _ _) (fun _ => LeO.refl _))))) (LeO.refl _))
set_option maxHeartbeats 8000000 in
set_option maxRecDepth 100000 in
theorem impl_StrongNumbers_1.calls (k : Nat) (At : Option Addr) (ct : Nat) (t : List Int) (Ah : Option Addr) (ch : Nat) (h : List Int) (ok0 : Bool) (gt go : Nat) (r1 : Int) (r2 : Bool) (w0 w : World) (hB : Below w0.heap.size w0 w) (hgo : w0.heap.size ≤ go) (hne0 : gt ≠ go)
  (hbt : w.heap[gt]? = some (.cells #[.slice At t.length ct] 66 (0, 0))) (hbo : w.heap[go]? = some (.cells #[.bool ok0] 4 (0, 0)))
  (hFt : Kd.F (Kd.int .u16) w (fun k_ => k_ ≠ go) At t.length t) (hct : t.length ≤ ct) (hFh : Kd.F (Kd.int .u16) w (fun k_ => k_ ≠ go) Ah h.length h) (hch : h.length ≤ ch) (H0 : impl_StrongNumbers_1.f k t h ok0 = some (r1, r2)) :
  Calls Try.prog 40 #[.func (.func 42) #[.slice Ah h.length ch] #[], .pointer (some ⟨gt, 0, none⟩), .pointer (some ⟨go, 0, none⟩)] w fun e w' => e = .returned (.int .i64 r1) ∧ w'.heap[go]? = some (.cells #[.bool r2] 4 (0, 0)) ∧ Below w0.heap.size w0 w' ∧ Kept w w' (fun k_ => k_ = go) := by
 have HBT := Aside0.mk hbt
 have HBO := Aside0.mk hbo
 have HFT := Aside0.mk hFt
 have HFH := Aside0.mk hFh
 have HB0 := Aside0.mk hB
 have hne := Aside0.mk hne0
 have GE := Aside0.mk hgo
 have H' : Aside0 (impl_StrongNumbers_1.l0 k t h (-1) ok0 0 = some (r1, r2)) := ⟨H0⟩
 have hz0 : w.cell? ⟨gt, 0, none⟩ = some (.slice At t.length ct) := (blk_cell HBT.out 0).trans rfl
 clear hbt hbo hFt hFh hB hne0 hgo H0
 go_enter Try.func40, Try.ntmps40
 go_wp2
 go_loopg [5, 11] k (fun kq v5 v11 w' => ∃ (out x : Int) (ok : Bool), v5 = .int .i64 out ∧ v11 = .int .i64 x ∧ Aside0 (impl_StrongNumbers_1.l0 kq t h out ok x = some (r1, r2)) ∧ Aside0 (kq ≤ k) ∧ Aside0 (w'.heap[go]? = some (.cells #[.bool ok] 4 (0, 0))) ∧ Aside0 (Kept w w' (fun k_ => k_ = go)) ∧ Aside0 (Below w0.heap.size w0 w'))
 case atStart => exact ⟨-1, 0, ok0, rfl, rfl, H', ⟨Nat.le_refl _⟩, HBO, ⟨Kept.refl _ _⟩, HB0⟩
 case round =>
  clear H' hz0
  obtain ⟨out, x, ok, rfl, rfl, HA, HKk, BO, HK, HB⟩ := hrel
  have H := HA.out
  clear HA
  rcases gk with _ | k1
  ·simp [impl_StrongNumbers_1.l0] at H
  simp only [impl_StrongNumbers_1.l0] at H
  by_cases hx : x < (t.length : Int)
  ·rw [if_pos hx] at H
   have hx0 : decide (x < (t.length : Int)) = true := decide_eq_true hx
   have H' := Aside0.mk H
   clear H hx
   go_wp2
   go_loopg [5, 15] k1 (fun kq v5 v15 w' => ∃ (out y : Int) (ok : Bool), v5 = .int .i64 out ∧ v15 = .int .i64 y ∧ Aside0 (impl_StrongNumbers_1.l1 kq t h out ok x y = some (r1, r2)) ∧ Aside0 (kq ≤ k1) ∧ Aside0 (w'.heap[go]? = some (.cells #[.bool ok] 4 (0, 0))) ∧ Aside0 (Kept w w' (fun k_ => k_ = go)) ∧ Aside0 (Below w0.heap.size w0 w'))
   case atStart => exact ⟨out, 0, ok, rfl, rfl, H', ⟨Nat.le_refl _⟩, BO, HK, HB⟩
   case round =>
    clear H' BO HK HB
    obtain ⟨out, y, ok, rfl, rfl, HA, HKk2, BO, HK, HB⟩ := hrel
    have H := HA.out
    clear HA
    have BT := Aside0.mk (blk_kept HBT.out HK.out (fun e_ => hne.out e_) : wr.heap[gt]? = some (.cells #[.slice At t.length ct] 66 (0, 0)))
    have HT := Aside0.mk (Kd.F_now (Kd.F_kept HFT.out HK.out (fun _ hk hs => hk hs)))
    have HH := Aside0.mk (Kd.F_now (Kd.F_kept HFH.out HK.out (fun _ hk hs => hk hs)))
    have hz0 : wr.cell? ⟨gt, 0, none⟩ = some (.slice At t.length ct) := (blk_cell BT.out 0).trans rfl
    have hzo : wr.cell? ⟨go, 0, none⟩ = some (.bool ok) := (blk_cell BO.out 0).trans rfl
    have hfo : wr.frozen? ⟨go, 0, none⟩ = false := blk_frozen BO.out 0
    rcases gk with _ | k2
    ·simp [impl_StrongNumbers_1.l1] at H
    simp only [impl_StrongNumbers_1.l1] at H
    by_cases hy : y < x
    ·rw [if_pos hy] at H
     have hy0 : decide (y < x) = true := decide_eq_true hy
     obtain ⟨n, hn, H⟩ := Option.bind_eq_some_iff.1 H
     obtain ⟨b, hb, H⟩ := Option.bind_eq_some_iff.1 H
     have A1 := Aside0.mk hn
     have A2 := Aside0.mk hb
     clear hn hb hy
     cases b with
     | false =>
      rw [if_neg (by simp)] at H
      have H' := Aside0.mk H
      clear H
      go_wp2_with (first | (go_at_call 41; (with_reducible refine (impl_table_common.calls At ct t x y n _ ?k1 hct A1.out).mono ?_); (case k1 => repeat (first | exact HT.out | (with_reducible refine Kd.C_alloc ?_ _) | (with_reducible refine Kd.C_drewN ?_ _) | (with_reducible refine Kd.C_drew ?_))); rintro e w' ⟨rfl, ⟨nd, rfl⟩⟩) | (go_at_call 42; (with_reducible refine (impl_table_has.calls Ah ch h x y false _ ?k2 hch A2.out).mono ?_); (case k2 => repeat (first | exact HH.out | (with_reducible refine Kd.C_alloc ?_ _) | (with_reducible refine Kd.C_drewN ?_ _) | (with_reducible refine Kd.C_drew ?_))); rintro e w' ⟨rfl, ⟨nd2, rfl⟩⟩))
      go_roundg k2
      case measure => have := HKk.out; have := HKk2.out; omega
      case rel => exact ⟨out, wrap64 (y + 1), ok, rfl, (by first | rfl | (simp; done) | (simp [*]; done)), H', ⟨by have := HKk.out; have := HKk2.out; omega⟩, ⟨by (with_reducible repeat (first | refine blk_drewN ?_ _ | refine blk_drew ?_ | refine blk_alloc ?_ _)); exact BO.out⟩, ⟨by (with_reducible repeat (first | refine Kept.alloc ?_ _ | refine Kept.drewN ?_ _ | refine Kept.drew ?_)); exact HK.out⟩, ⟨by repeat (first | (with_reducible first | exact HB.out | apply below_alloc | apply pw_below_drewN | apply below_drew1) | exact HB.out)⟩⟩
     | true =>
      rw [if_pos rfl] at H
      by_cases ho : 0 ≤ out
      ·rw [if_pos ho] at H
       have ho1 : decide (out ≥ 0) = true := decide_eq_true ho
       by_cases he : n = out
       ·rw [if_pos he] at H
        have he1 : (n != out) = false := by simp [he]
        have H' := Aside0.mk H
        clear H he ho
        go_wp2_with (first | (go_at_call 41; (with_reducible refine (impl_table_common.calls At ct t x y n _ ?k1 hct A1.out).mono ?_); (case k1 => repeat (first | exact HT.out | (with_reducible refine Kd.C_alloc ?_ _) | (with_reducible refine Kd.C_drewN ?_ _) | (with_reducible refine Kd.C_drew ?_))); rintro e w' ⟨rfl, ⟨nd, rfl⟩⟩) | (go_at_call 42; (with_reducible refine (impl_table_has.calls Ah ch h x y true _ ?k2 hch A2.out).mono ?_); (case k2 => repeat (first | exact HH.out | (with_reducible refine Kd.C_alloc ?_ _) | (with_reducible refine Kd.C_drewN ?_ _) | (with_reducible refine Kd.C_drew ?_))); rintro e w' ⟨rfl, ⟨nd2, rfl⟩⟩))
        go_roundg k2
        case measure => have := HKk.out; have := HKk2.out; omega
        case rel => exact ⟨n, wrap64 (y + 1), ok, rfl, (by first | rfl | (simp; done) | (simp [*]; done)), H', ⟨by have := HKk.out; have := HKk2.out; omega⟩, ⟨by (with_reducible repeat (first | refine blk_drewN ?_ _ | refine blk_drew ?_ | refine blk_alloc ?_ _)); exact BO.out⟩, ⟨by (with_reducible repeat (first | refine Kept.alloc ?_ _ | refine Kept.drewN ?_ _ | refine Kept.drew ?_)); exact HK.out⟩, ⟨by repeat (first | (with_reducible first | exact HB.out | apply below_alloc | apply pw_below_drewN | apply below_drew1) | exact HB.out)⟩⟩
       ·rw [if_neg he] at H
        have he1 : (n != out) = true := by simp [he]
        have H' := Aside0.mk H
        clear H he ho
        go_wp2_with (first | (go_at_call 41; (with_reducible refine (impl_table_common.calls At ct t x y n _ ?k1 hct A1.out).mono ?_); (case k1 => repeat (first | exact HT.out | (with_reducible refine Kd.C_alloc ?_ _) | (with_reducible refine Kd.C_drewN ?_ _) | (with_reducible refine Kd.C_drew ?_))); rintro e w' ⟨rfl, ⟨nd, rfl⟩⟩) | (go_at_call 42; (with_reducible refine (impl_table_has.calls Ah ch h x y true _ ?k2 hch A2.out).mono ?_); (case k2 => repeat (first | exact HH.out | (with_reducible refine Kd.C_alloc ?_ _) | (with_reducible refine Kd.C_drewN ?_ _) | (with_reducible refine Kd.C_drew ?_))); rintro e w' ⟨rfl, ⟨nd2, rfl⟩⟩))
        go_roundg k2
        case measure => have := HKk.out; have := HKk2.out; omega
        case rel => exact ⟨n, wrap64 (y + 1), false, rfl, (by first | rfl | (simp; done) | (simp [*]; done)), H', ⟨by have := HKk.out; have := HKk2.out; omega⟩, ⟨by refine blk_put (cs := #[.bool ok]) ?_ 0 _ rfl; (with_reducible repeat (first | refine blk_drewN ?_ _ | refine blk_drew ?_ | refine blk_alloc ?_ _)); exact BO.out⟩, ⟨by refine Kept.setCell ?_ (.inl (by rfl)) _; (with_reducible repeat (first | refine Kept.alloc ?_ _ | refine Kept.drewN ?_ _ | refine Kept.drew ?_)); exact HK.out⟩, ⟨by refine below_set ?_ GE.out; repeat (first | (with_reducible first | exact HB.out | apply below_alloc | apply pw_below_drewN | apply below_drew1) | exact HB.out)⟩⟩
      ·rw [if_neg ho] at H
       have ho1 : decide (out ≥ 0) = false := decide_eq_false ho
       have H' := Aside0.mk H
       clear H ho
       go_wp2_with (first | (go_at_call 41; (with_reducible refine (impl_table_common.calls At ct t x y n _ ?k1 hct A1.out).mono ?_); (case k1 => repeat (first | exact HT.out | (with_reducible refine Kd.C_alloc ?_ _) | (with_reducible refine Kd.C_drewN ?_ _) | (with_reducible refine Kd.C_drew ?_))); rintro e w' ⟨rfl, ⟨nd, rfl⟩⟩) | (go_at_call 42; (with_reducible refine (impl_table_has.calls Ah ch h x y true _ ?k2 hch A2.out).mono ?_); (case k2 => repeat (first | exact HH.out | (with_reducible refine Kd.C_alloc ?_ _) | (with_reducible refine Kd.C_drewN ?_ _) | (with_reducible refine Kd.C_drew ?_))); rintro e w' ⟨rfl, ⟨nd2, rfl⟩⟩))
       go_roundg k2
       case measure => have := HKk.out; have := HKk2.out; omega
       case rel => exact ⟨n, wrap64 (y + 1), ok, rfl, (by first | rfl | (simp; done) | (simp [*]; done)), H', ⟨by have := HKk.out; have := HKk2.out; omega⟩, ⟨by (with_reducible repeat (first | refine blk_drewN ?_ _ | refine blk_drew ?_ | refine blk_alloc ?_ _)); exact BO.out⟩, ⟨by (with_reducible repeat (first | refine Kept.alloc ?_ _ | refine Kept.drewN ?_ _ | refine Kept.drew ?_)); exact HK.out⟩, ⟨by repeat (first | (with_reducible first | exact HB.out | apply below_alloc | apply pw_below_drewN | apply below_drew1) | exact HB.out)⟩⟩
    ·rw [if_neg hy] at H
     have hy0 : decide (y < x) = false := decide_eq_false hy
     have H' := Aside0.mk H
     clear H hy
     go_wp2
     go_roundg k2
     case measure => have := HKk.out; have := HKk2.out; omega
     case rel => exact ⟨out, wrap64 (x + 1), ok, rfl, (by first | rfl | (simp; done) | (simp [*]; done)), H', ⟨by have := HKk.out; have := HKk2.out; omega⟩, BO, HK, HB⟩
  ·rw [if_neg hx] at H
   have hx0 : decide (x < (t.length : Int)) = false := decide_eq_false hx
   simp only [Option.some.injEq, Prod.mk.injEq] at H
   obtain ⟨rfl, rfl⟩ := H
   clear hx
   go_wp2
   go_ret
   exact ⟨rfl, BO.out, HB.out, HK.out⟩

def impl_StrongNumbers.T6 : Bool × List (List Nat × List Nat) := (true, [([], []), ([], []), ([1], [1]), ([0, 2], [0, 2]), ([], []), ([], []), ([5, 3], [5]), ([6], [6]), ([4, 7, 6], [4, 7]), ([3, 8, 0, 1, 2, 3], [3]), ([8, 9, 0, 1, 2, 3, 4, 5, 6, 7, 8, 9], [8])])
def impl_StrongNumbers.B6 : List Nat := [0, 0, 2, 7, 0, 0, 47, 111, 255, 511, 1023]
theorem impl_StrongNumbers.tab6 : rtab .any (opsOf Try.f10 6) = impl_StrongNumbers.T6 := by kernel_rfl
theorem impl_StrongNumbers.bits6 : waitsOk impl_StrongNumbers.T6.2 impl_StrongNumbers.B6 = true := by kernel_rfl
theorem goesV_ {P : Program} {Q : Exit → Act → World → Prop} {ops : Array Oper} {oi : Oper} {N : Option Tmp} {a : Act} {w : World} {K : Act → World → Prop} {f : FuncId} {fn : Func} {as_ : Array Operand} {ts : Array TypeId} {x : Operand} {first cap : Array Value} (hf : P.funcs[f]? = some fn) (hname : (fn.name == "runtime.NumGoroutine") = false) (hb : fn.body.isSome = true) (args : Array Value)
  (hw : Region.wanted oi (yielded ops a.tmps) = true) (hN : oi.dst = N) (hop : oi.op = .call { callee := .value x, args := as_, argTypes := ts }) (hx : a.eval x = .func (.func f) first cap) (hargs : first ++ as_.map a.eval ++ cap = args)
  (h : Calls P f args w fun e w' => ∃ v, e = .returned v ∧ K (a.put N v) w') : if Region.wanted oi (yielded ops a.tmps) = true then Oper.wp P oi a w K Q else K (a.put N undef) w := by
 refine call_ f args hw hN ?_ h
 have he := enters_ hf hname hb args w
 unfold execOp
 simp [hop, resolve, Deferred.ofValue, invoke, hx, hargs, he]
set_option maxHeartbeats 8000000 in
set_option maxRecDepth 100000 in
theorem impl_StrongNumbers.calls (k : Nat) (a0_0 : Int) (A0_1 : Option Addr) (c0_1 : Nat) (l0_1 : List (S71)) (r1 : List Int) (r2 : Bool) (w : World) (hr0_1 : Kd.C k71 w A0_1 l0_1.length l0_1) (hc0_1 : l0_1.length ≤ c0_1) (h : impl_StrongNumbers.f k a0_0 l0_1 = some (r1, r2)) :
  Calls Try.prog 10 #[.agg #[.int .i64 a0_0, .slice A0_1 l0_1.length c0_1]] w fun e w' => ∃ v0_ : Value, e = .returned (.tuple #[v0_, .bool r2]) ∧ Kd.R (Kd.int .i64) 3 w' w.heap.size (fun _ => True) v0_ r1 ∧ Below w.heap.size w w' := by
 have hu31 := Try.underlying31
 have HR0 := Aside0.mk hr0_1
 have HC0 := Aside0.mk hc0_1
 clear hr0_1 hc0_1
 have HB := Aside0.mk (Below.refl w.heap.size w)
 unfold impl_StrongNumbers.f at h
 obtain ⟨⟨q1, q2⟩, hq, h⟩ := Option.bind_eq_some_iff.1 h
 have A1 := Aside0.mk hq
 clear hq
 dsimp only at h
 cases q2 with
 | false =>
  rw [if_neg (by simp)] at h
  simp only [Option.some.injEq, Prod.mk.injEq] at h
  obtain ⟨rfl, rfl⟩ := h
  go_enter Try.func10, Try.ntmps10
  go_wp2_with (first | ((with_reducible refine gate_dst (N := 1) rfl ?_); refine box_event ?hg (N := 1) ?hd (cs := #[.int .i64 a0_0, .slice A0_1 l0_1.length c0_1]) (t := 31) ?hr ?_; (case hd => rfl); (case hg => rfl); (case hr => first | (go_simp; done) | (go_simp; rfl)); intro gp hg w2 hbox hb; have HB2 := Aside0.mk (below_step (by repeat (first | (with_reducible first | exact HB.out | apply below_alloc | apply pw_below_drewN | apply below_drew1) | exact HB.out)) hb); have BKP2 := Aside0.mk hbox; have hzp0 : w2.cell? ⟨gp, 0, none⟩ = some (.int .i64 a0_0) := (blk_cell hbox 0).trans rfl; have hzp1 : w2.cell? ⟨gp, 1, none⟩ = some (.slice A0_1 l0_1.length c0_1) := (blk_cell hbox 1).trans rfl; clear hb hbox hg) | (go_at_call 38; (with_reducible refine (impl_EqualNumber.calls k a0_0 A0_1 c0_1 l0_1 q1 _ _ ?k1 HC0.out A1.out).mono ?_); (case k1 => repeat (first | exact (Kd.C_below HR0.out HB2.out) | (with_reducible refine Kd.C_alloc ?_ _) | (with_reducible refine Kd.C_drewN ?_ _) | (with_reducible refine Kd.C_drew ?_))); rintro e w3 ⟨rfl, hb⟩; have HB3 := Aside0.mk (below_step (by repeat (first | (with_reducible first | exact HB2.out | apply below_alloc | apply pw_below_drewN | apply below_drew1) | exact HB2.out)) hb); have BKP3 := Aside0.mk (blk_below (g := gp) (o := .cells #[.int .i64 a0_0, .slice A0_1 l0_1.length c0_1] 31 (0, 0)) (by (with_reducible repeat (first | refine blk_drewN ?_ _ | refine blk_drew ?_ | refine blk_alloc ?_ _)); exact BKP2.out) hb); clear hzp0 hzp1; clear hb) | ((with_reducible refine gate_dst (N := 5) rfl ?_); refine box_event ?hg (N := 5) ?hd (cs := #[.bool false]) (t := 4) ?hr ?_; (case hd => rfl); (case hg => rfl); (case hr => first | (go_simp; done) | (go_simp; rfl)); intro go hg w4 hbox hb; have HPO := Aside0.mk (show gp ≠ go from by rw [hg]; exact Nat.ne_of_lt (blk_lt (by (with_reducible repeat (first | refine blk_drewN ?_ _ | refine blk_drew ?_ | refine blk_alloc ?_ _)); exact BKP3.out))); have GEO := Aside0.mk (show w.heap.size ≤ go from by rw [hg]; exact below_size (by repeat (first | (with_reducible first | exact HB3.out | apply below_alloc | apply pw_below_drewN | apply below_drew1) | exact HB3.out))); have HB4 := Aside0.mk (below_step (by repeat (first | (with_reducible first | exact HB3.out | apply below_alloc | apply pw_below_drewN | apply below_drew1) | exact HB3.out)) hb); have BKP4 := Aside0.mk (blk_below (g := gp) (o := .cells #[.int .i64 a0_0, .slice A0_1 l0_1.length c0_1] 31 (0, 0)) (by (with_reducible repeat (first | refine blk_drewN ?_ _ | refine blk_drew ?_ | refine blk_alloc ?_ _)); exact BKP3.out) hb); have BKO4 := Aside0.mk hbox; have hzo4 : w4.cell? ⟨go, 0, none⟩ = some (.bool false) := (blk_cell hbox 0).trans rfl; have hfo4 : w4.frozen? ⟨go, 0, none⟩ = false := blk_frozen hbox 0; clear hb hbox hg) | (refine store_event (t := 4) (p := 5) (v := ?v5) (w1 := w4.setCell ⟨go, 0, none⟩ (.bool false)) ?hg ?ho ?hn ?hr ?_; (case ho => rfl); (case hg => rfl); (case hn => rfl); (case hr => first | (go_simp; done) | (go_simp; rfl)); intro w5 hw; have HB5 := Aside0.mk (by rw [hw]; exact below_set HB4.out GEO.out : Below w.heap.size w w5); have BKO5 := Aside0.mk (by rw [hw]; exact blk_put BKO4.out 0 _ rfl : w5.heap[go]? = some (.cells #[.bool false] 4 (0, 0))); have BKP5 := Aside0.mk (by rw [hw]; exact blk_far BKP4.out HPO.out _ : w5.heap[gp]? = some (.cells #[.int .i64 a0_0, .slice A0_1 l0_1.length c0_1] 31 (0, 0))); have hzo5 : w5.cell? ⟨go, 0, none⟩ = some (.bool false) := (blk_cell BKO5.out 0).trans rfl; have hzp0 : w5.cell? ⟨gp, 0, none⟩ = some (.int .i64 a0_0) := (blk_cell BKP5.out 0).trans rfl; have hzp1 : w5.cell? ⟨gp, 1, none⟩ = some (.slice A0_1 l0_1.length c0_1) := (blk_cell BKP5.out 1).trans rfl; clear hw))
  go_ret2
  exact ⟨_, by first | rfl | (simp; done) | (simp [*]; done), Kd.R_nil _ _ _ _ _, by repeat (first | (with_reducible first | exact HB5.out | apply below_alloc | apply pw_below_drewN | apply below_drew1) | exact HB5.out)⟩
 | true =>
  rw [if_pos rfl] at h
  obtain ⟨t, ht, h⟩ := Option.bind_eq_some_iff.1 h
  have A2 := Aside0.mk ht
  clear ht
  obtain ⟨⟨p1, p2⟩, hp, h⟩ := Option.bind_eq_some_iff.1 h
  have A3 := Aside0.mk hp
  clear hp
  obtain ⟨o, ho, h⟩ := Option.bind_eq_some_iff.1 h
  have A4 := Aside0.mk ho
  clear ho
  obtain ⟨⟨s1, s2⟩, hs, h⟩ := Option.bind_eq_some_iff.1 h
  have A5 := Aside0.mk hs
  clear hs
  dsimp only at h A5
  have H' := Aside0.mk h
  clear h
  go_enter Try.func10, Try.ntmps10
  go_wp2_with (first | ((with_reducible refine gate_dst (N := 1) rfl ?_); refine box_event ?hg (N := 1) ?hd (cs := #[.int .i64 a0_0, .slice A0_1 l0_1.length c0_1]) (t := 31) ?hr ?_; (case hd => rfl); (case hg => rfl); (case hr => first | (go_simp; done) | (go_simp; rfl)); intro gp hg w2 hbox hb; have HB2 := Aside0.mk (below_step (by repeat (first | (with_reducible first | exact HB.out | apply below_alloc | apply pw_below_drewN | apply below_drew1) | exact HB.out)) hb); have BKP2 := Aside0.mk hbox; have hzp0 : w2.cell? ⟨gp, 0, none⟩ = some (.int .i64 a0_0) := (blk_cell hbox 0).trans rfl; have hzp1 : w2.cell? ⟨gp, 1, none⟩ = some (.slice A0_1 l0_1.length c0_1) := (blk_cell hbox 1).trans rfl; clear hb hbox hg) | (go_at_call 38; (with_reducible refine (impl_EqualNumber.calls k a0_0 A0_1 c0_1 l0_1 q1 _ _ ?k1 HC0.out A1.out).mono ?_); (case k1 => repeat (first | exact (Kd.C_below HR0.out HB2.out) | (with_reducible refine Kd.C_alloc ?_ _) | (with_reducible refine Kd.C_drewN ?_ _) | (with_reducible refine Kd.C_drew ?_))); rintro e w3 ⟨rfl, hb⟩; have HB3 := Aside0.mk (below_step (by repeat (first | (with_reducible first | exact HB2.out | apply below_alloc | apply pw_below_drewN | apply below_drew1) | exact HB2.out)) hb); have BKP3 := Aside0.mk (blk_below (g := gp) (o := .cells #[.int .i64 a0_0, .slice A0_1 l0_1.length c0_1] 31 (0, 0)) (by (with_reducible repeat (first | refine blk_drewN ?_ _ | refine blk_drew ?_ | refine blk_alloc ?_ _)); exact BKP2.out) hb); clear hzp0 hzp1; clear hb) | ((with_reducible refine gate_dst (N := 5) rfl ?_); refine box_event ?hg (N := 5) ?hd (cs := #[.bool false]) (t := 4) ?hr ?_; (case hd => rfl); (case hg => rfl); (case hr => first | (go_simp; done) | (go_simp; rfl)); intro go hg w4 hbox hb; have HPO := Aside0.mk (show gp ≠ go from by rw [hg]; exact Nat.ne_of_lt (blk_lt (by (with_reducible repeat (first | refine blk_drewN ?_ _ | refine blk_drew ?_ | refine blk_alloc ?_ _)); exact BKP3.out))); have GEO := Aside0.mk (show w.heap.size ≤ go from by rw [hg]; exact below_size (by repeat (first | (with_reducible first | exact HB3.out | apply below_alloc | apply pw_below_drewN | apply below_drew1) | exact HB3.out))); have HB4 := Aside0.mk (below_step (by repeat (first | (with_reducible first | exact HB3.out | apply below_alloc | apply pw_below_drewN | apply below_drew1) | exact HB3.out)) hb); have BKP4 := Aside0.mk (blk_below (g := gp) (o := .cells #[.int .i64 a0_0, .slice A0_1 l0_1.length c0_1] 31 (0, 0)) (by (with_reducible repeat (first | refine blk_drewN ?_ _ | refine blk_drew ?_ | refine blk_alloc ?_ _)); exact BKP3.out) hb); have BKO4 := Aside0.mk hbox; have hzo4 : w4.cell? ⟨go, 0, none⟩ = some (.bool false) := (blk_cell hbox 0).trans rfl; have hfo4 : w4.frozen? ⟨go, 0, none⟩ = false := blk_frozen hbox 0; clear hb hbox hg) | (refine store_event (t := 4) (p := 5) (v := ?v5) (w1 := w4.setCell ⟨go, 0, none⟩ (.bool true)) ?hg ?ho ?hn ?hr ?_; (case ho => rfl); (case hg => rfl); (case hn => rfl); (case hr => first | (go_simp; done) | (go_simp; rfl)); intro w5 hw; have HB5 := Aside0.mk (by rw [hw]; exact below_set HB4.out GEO.out : Below w.heap.size w w5); have BKO5 := Aside0.mk (by rw [hw]; exact blk_put BKO4.out 0 _ rfl : w5.heap[go]? = some (.cells #[.bool true] 4 (0, 0))); have BKP5 := Aside0.mk (by rw [hw]; exact blk_far BKP4.out HPO.out _ : w5.heap[gp]? = some (.cells #[.int .i64 a0_0, .slice A0_1 l0_1.length c0_1] 31 (0, 0))); have hzo5 : w5.cell? ⟨go, 0, none⟩ = some (.bool true) := (blk_cell BKO5.out 0).trans rfl; have hzp0 : w5.cell? ⟨gp, 0, none⟩ = some (.int .i64 a0_0) := (blk_cell BKP5.out 0).trans rfl; have hzp1 : w5.cell? ⟨gp, 1, none⟩ = some (.slice A0_1 l0_1.length c0_1) := (blk_cell BKP5.out 1).trans rfl; clear hw) | (go_at_call 39; (with_reducible refine (impl_Party_table.calls k a0_0 A0_1 c0_1 l0_1 t _ ?k1 HC0.out A2.out).mono ?_); (case k1 => repeat (first | exact (Kd.C_below HR0.out HB5.out) | (with_reducible refine Kd.C_alloc ?_ _) | (with_reducible refine Kd.C_drewN ?_ _) | (with_reducible refine Kd.C_drew ?_))); rintro e w6 ⟨v6, rfl, ho0, hb⟩; have HO6 := Aside0.mk (Kd.R_lower ho0 (below_size (by repeat (first | (with_reducible first | exact HB5.out | apply below_alloc | apply pw_below_drewN | apply below_drew1) | exact HB5.out)))); have HB6 := Aside0.mk (below_step (by repeat (first | (with_reducible first | exact HB5.out | apply below_alloc | apply pw_below_drewN | apply below_drew1) | exact HB5.out)) hb); have BKP6 := Aside0.mk (blk_below (g := gp) (o := .cells #[.int .i64 a0_0, .slice A0_1 l0_1.length c0_1] 31 (0, 0)) (by (with_reducible repeat (first | refine blk_drewN ?_ _ | refine blk_drew ?_ | refine blk_alloc ?_ _)); exact BKP5.out) hb); have BKO6 := Aside0.mk (blk_below (g := go) (o := .cells #[.bool true] 4 (0, 0)) (by (with_reducible repeat (first | refine blk_drewN ?_ _ | refine blk_drew ?_ | refine blk_alloc ?_ _)); exact BKO5.out) hb); obtain ⟨At, ct, et_⟩ := Kd.R_slice HO6.out; subst et_; clear hb ho0) | ((with_reducible refine gate_dst (N := 6) rfl ?_); refine box_event ?hg (N := 6) ?hd (cs := #[.slice none 0 0]) (t := 66) ?hr ?_; (case hd => rfl); (case hg => rfl); (case hr => first | (go_simp; done) | (go_simp; rfl)); intro gt hg w7 hbox hb; have HPT := Aside0.mk (show gp ≠ gt from by rw [hg]; exact Nat.ne_of_lt (blk_lt (by (with_reducible repeat (first | refine blk_drewN ?_ _ | refine blk_drew ?_ | refine blk_alloc ?_ _)); exact BKP6.out))); have HOT := Aside0.mk (show go ≠ gt from by rw [hg]; exact Nat.ne_of_lt (blk_lt (by (with_reducible repeat (first | refine blk_drewN ?_ _ | refine blk_drew ?_ | refine blk_alloc ?_ _)); exact BKO6.out))); have GET := Aside0.mk (show w.heap.size ≤ gt from by rw [hg]; exact below_size (by repeat (first | (with_reducible first | exact HB6.out | apply below_alloc | apply pw_below_drewN | apply below_drew1) | exact HB6.out))); have HB7 := Aside0.mk (below_step (by repeat (first | (with_reducible first | exact HB6.out | apply below_alloc | apply pw_below_drewN | apply below_drew1) | exact HB6.out)) hb); have BKP7 := Aside0.mk (blk_below (g := gp) (o := .cells #[.int .i64 a0_0, .slice A0_1 l0_1.length c0_1] 31 (0, 0)) (by (with_reducible repeat (first | refine blk_drewN ?_ _ | refine blk_drew ?_ | refine blk_alloc ?_ _)); exact BKP6.out) hb); have BKO7 := Aside0.mk (blk_below (g := go) (o := .cells #[.bool true] 4 (0, 0)) (by (with_reducible repeat (first | refine blk_drewN ?_ _ | refine blk_drew ?_ | refine blk_alloc ?_ _)); exact BKO6.out) hb); have HO7 := Aside0.mk (Kd.R_below (by (with_reducible repeat (first | apply Kd.R_alloc | apply Kd.R_drewN | apply Kd.R_drew)); exact HO6.out) hb); have BKT7 := Aside0.mk hbox; have hzt7 : w7.cell? ⟨gt, 0, none⟩ = some (.slice none 0 0) := (blk_cell hbox 0).trans rfl; have hft7 : w7.frozen? ⟨gt, 0, none⟩ = false := blk_frozen hbox 0; clear hb hbox hg) | (refine store_event (t := 66) (p := 6) (v := ?v6) (w1 := w7.setCell ⟨gt, 0, none⟩ (.slice At t.length ct)) ?hg ?ho ?hn ?hr ?_; (case ho => rfl); (case hg => rfl); (case hn => rfl); (case hr => first | (go_simp; done) | (go_simp; rfl)); intro w8 hw; have HB8 := Aside0.mk (by rw [hw]; exact below_set HB7.out GET.out : Below w.heap.size w w8); have BKT8 := Aside0.mk (by rw [hw]; exact blk_put BKT7.out 0 _ rfl : w8.heap[gt]? = some (.cells #[.slice At t.length ct] 66 (0, 0))); have BKP8 := Aside0.mk (by rw [hw]; exact blk_far BKP7.out HPT.out _ : w8.heap[gp]? = some (.cells #[.int .i64 a0_0, .slice A0_1 l0_1.length c0_1] 31 (0, 0))); have BKO8 := Aside0.mk (by rw [hw]; exact blk_far BKO7.out HOT.out _ : w8.heap[go]? = some (.cells #[.bool true] 4 (0, 0))); have HO8 := Aside0.mk (by rw [hw]; exact Kd.R_mono (Kd.R_far (p := ⟨gt, 0, none⟩) (Kd.R_types HO7.out BKT7.out (by decide)) (fun _ hk => hk.2) (.slice At t.length ct)) (fun _ h_ => h_.1) : Kd.R (Kd.int .u16) 87 w8 w.heap.size (fun _ => True) (.slice At t.length ct) t); clear hw))
  clear hzp0 hzp1 hzo4 hfo4 hzo5 hzt7 hft7
  refine start_ (n := 11) (S := fun w' => w'.cell? ⟨gt, 0, none⟩ = some (.slice At t.length ct)) (ds := []) #[false, false, false, false, false, false, false, false, false, false, false] (by kernel_rfl) rfl rfl ((blk_cell (by (with_reducible repeat (first | refine blk_drewN ?_ _ | refine blk_drew ?_ | refine blk_alloc ?_ _)); exact BKT8.out) 0).trans rfl) (fun hHeld => ?_)
  refine with_tabW impl_StrongNumbers.tab6 impl_StrongNumbers.bits6 (fun HT_ HW_ => ?_)
  refine pure_ (i := 0) (N := some 20) (v := ?_) (a' := ?_) #[true, false, false, false, false, false, false, false, false, false, false] rfl rfl (any_of HT_.out (by kernel_rfl)) (fun _ _ _ h => h) (Or.inl ⟨by rfl, ?_⟩) ?_ ?_
  rotate_left
  ·intro w'
   go_simp
   with_reducible rfl
  rotate_left
  ·simp only [Act.put, List.setIfInBounds_toArray, List.set_cons_zero, List.set_cons_succ, i64_w, i32_w]
   rfl
  refine take_ (i := 1) (N := some 21) (v := ?_) (a' := ?_) #[true, true, false, false, false, false, false, false, false, false, false] rfl rfl (take_ofW HT_.out HW_.out (by kernel_rfl)) (fun _ _ _ h => h) (Or.inl ⟨by rfl, ?_⟩) hHeld ?_ ?_
  rotate_left
  ·intro w' s0
   go_simp
   with_reducible rfl
  rotate_left
  ·simp only [Act.put, List.setIfInBounds_toArray, List.set_cons_zero, List.set_cons_succ, i64_w, i32_w]
   rfl
  refine pure_ (i := 2) (N := some 22) (v := ?_) (a' := ?_) #[true, true, true, false, false, false, false, false, false, false, false] rfl rfl (any_of HT_.out (by kernel_rfl)) (fun _ _ _ h => h) (Or.inl ⟨by rfl, ?_⟩) ?_ ?_
  rotate_left
  ·intro w'
   go_simp
   with_reducible rfl
  rotate_left
  ·simp only [Act.put, List.setIfInBounds_toArray, List.set_cons_zero, List.set_cons_succ, i64_w, i32_w]
   rfl
  refine pure_ (i := 4) (N := some 24) (v := ?_) (a' := ?_) #[true, true, true, false, true, false, false, false, false, false, false] rfl rfl (any_of HT_.out (by kernel_rfl)) (fun _ _ _ h => h) (Or.inl ⟨by rfl, ?_⟩) ?_ ?_
  rotate_left
  ·intro w'
   go_simp
   with_reducible rfl
  rotate_left
  ·simp only [Act.put, List.setIfInBounds_toArray, List.set_cons_zero, List.set_cons_succ, i64_w, i32_w]
   rfl
  refine take_ (i := 5) (N := some 25) (v := ?_) (a' := ?_) #[true, true, true, false, true, true, false, false, false, false, false] rfl rfl (take_ofW HT_.out HW_.out (by kernel_rfl)) (fun _ _ _ h => h) (Or.inl ⟨by rfl, ?_⟩) hHeld ?_ ?_
  rotate_left
  ·intro w' s0
   go_simp
   with_reducible rfl
  rotate_left
  ·simp only [Act.put, List.setIfInBounds_toArray, List.set_cons_zero, List.set_cons_succ, i64_w, i32_w]
   rfl
  refine one_ (i := 3) (N := some 23) #[true, true, true, true, true, true, false, false, false, false, false] rfl rfl (one_of HT_.out (by kernel_rfl)) (by decide) (fun K hK => ?_)
  refine goesV_ Try.func40 (by kernel_rfl) rfl #[.func (.func 42) #[.slice At t.length ct] #[], .pointer (some ⟨gt, 0, none⟩), .pointer (some ⟨go, 0, none⟩)] (by rfl) rfl rfl rfl (by (try simp only [List.map_toArray, List.map_cons, List.map_nil]); first | done | rfl | (simp [Act.eval]; done) | (simp [Act.eval]; rfl)) ?_
  refine (impl_StrongNumbers_1.calls k At ct t At ct t true gt go p1 _ w _ ?sB GEO.out (fun e_ => HOT.out e_.symm) ?sT ?sO ?sF ?sc ?sG ?sd A3.out).mono ?_
  case sB => exact (by repeat (first | (with_reducible first | exact HB8.out | apply below_alloc | apply pw_below_drewN | apply below_drew1) | exact HB8.out))
  case sT => exact (by (with_reducible repeat (first | refine blk_drewN ?_ _ | refine blk_drew ?_ | refine blk_alloc ?_ _)); exact BKT8.out)
  case sO => exact (by (with_reducible repeat (first | refine blk_drewN ?_ _ | refine blk_drew ?_ | refine blk_alloc ?_ _)); exact BKO8.out)
  case sF => exact Kd.R_F (Kd.R_mono (Kd.R_types (by (with_reducible repeat (first | apply Kd.R_alloc | apply Kd.R_drewN | apply Kd.R_drew)); exact HO8.out) (by (with_reducible repeat (first | refine blk_drewN ?_ _ | refine blk_drew ?_ | refine blk_alloc ?_ _)); exact BKO8.out) (by decide)) (fun _ h_ => h_.2))
  case sc => exact (Kd.R_reads' HO8.out).2.1
  case sG => exact Kd.R_F (Kd.R_mono (Kd.R_types (by (with_reducible repeat (first | apply Kd.R_alloc | apply Kd.R_drewN | apply Kd.R_drew)); exact HO8.out) (by (with_reducible repeat (first | refine blk_drewN ?_ _ | refine blk_drew ?_ | refine blk_alloc ?_ _)); exact BKO8.out) (by decide)) (fun _ h_ => h_.2))
  case sd => exact (Kd.R_reads' HO8.out).2.1
  rintro e w9 ⟨rfl, hbo, hB, hk⟩
  refine ⟨_, rfl, ?_⟩
  have HB9 := Aside0.mk hB
  have BKO9 := Aside0.mk hbo
  have BKT9 := Aside0.mk (blk_kept (by (with_reducible repeat (first | refine blk_drewN ?_ _ | refine blk_drew ?_ | refine blk_alloc ?_ _)); exact BKT8.out) hk (fun e_ => HOT.out e_.symm))
  have BKP9 := Aside0.mk (blk_kept (by (with_reducible repeat (first | refine blk_drewN ?_ _ | refine blk_drew ?_ | refine blk_alloc ?_ _)); exact BKP8.out) hk (fun e_ => HPO.out e_))
  have HO9 := Aside0.mk (Kd.R_mono (ok' := fun _ => True) (Kd.R_kept (Kd.R_mono (Kd.R_types (by (with_reducible repeat (first | apply Kd.R_alloc | apply Kd.R_drewN | apply Kd.R_drew)); exact HO8.out) (by (with_reducible repeat (first | refine blk_drewN ?_ _ | refine blk_drew ?_ | refine blk_alloc ?_ _)); exact BKO8.out) (by decide)) (fun _ h_ => h_.2)) hk (fun _ h_ e_ => h_ e_)) (fun _ _ => trivial))
  clear hB hbo hk
  refine hK.out _ _ ((blk_cell (by (with_reducible repeat (first | refine blk_drewN ?_ _ | refine blk_drew ?_ | refine blk_alloc ?_ _)); exact BKT9.out) 0).trans rfl) (fun hHeld => ?_)
  clear hK K
  refine norm_ (a' := ?_) ?_ ?_
  rotate_left
  ·show Act.put _ (some 23) _ = _
   simp only [Act.put, List.setIfInBounds_toArray, List.set_cons_zero, List.set_cons_succ, i64_w, i32_w]
   rfl
  refine one_ (i := 6) (N := some 26) #[true, true, true, true, true, true, true, false, false, false, false] rfl rfl (one_of HT_.out (by kernel_rfl)) (by decide) (fun K hK => ?_)
  refine goes_ Try.func43 (by kernel_rfl) rfl #[.slice At t.length ct] (by rfl) rfl rfl (by (try simp only [List.map_toArray, List.map_cons, List.map_nil]); first | done | rfl | (simp [Act.eval]; done) | (simp [Act.eval]; rfl)) ?_
  refine (impl_table_others.calls k At ct t o _ ?s1 ?s2 A4.out).mono ?_
  case s1 => repeat (first | exact (Kd.R_reads' HO9.out).2.2 | (with_reducible refine Kd.C_alloc ?_ _) | (with_reducible refine Kd.C_drewN ?_ _) | (with_reducible refine Kd.C_drew ?_))
  case s2 => exact (Kd.R_reads' HO9.out).2.1
  rintro e w10 ⟨v_, rfl, ho0, hb⟩
  refine ⟨_, rfl, ?_⟩
  have HOo10 := Aside0.mk (Kd.R_lower ho0 (below_size (by repeat (first | (with_reducible first | exact HB9.out | apply below_alloc | apply pw_below_drewN | apply below_drew1) | exact HB9.out))))
  have HO10 := Aside0.mk (Kd.R_below (by (with_reducible repeat (first | apply Kd.R_alloc | apply Kd.R_drewN | apply Kd.R_drew)); exact HO9.out) hb)
  have BKO10 := Aside0.mk (blk_below (g := go) (o := .cells #[.bool p2] 4 (0, 0)) (by (with_reducible repeat (first | refine blk_drewN ?_ _ | refine blk_drew ?_ | refine blk_alloc ?_ _)); exact BKO9.out) hb)
  have BKT10 := Aside0.mk (blk_below (g := gt) (o := .cells #[.slice At t.length ct] 66 (0, 0)) (by (with_reducible repeat (first | refine blk_drewN ?_ _ | refine blk_drew ?_ | refine blk_alloc ?_ _)); exact BKT9.out) hb)
  have BKP10 := Aside0.mk (blk_below (g := gp) (o := .cells #[.int .i64 a0_0, .slice A0_1 l0_1.length c0_1] 31 (0, 0)) (by (with_reducible repeat (first | refine blk_drewN ?_ _ | refine blk_drew ?_ | refine blk_alloc ?_ _)); exact BKP9.out) hb)
  have HB10 := Aside0.mk (below_step (by repeat (first | (with_reducible first | exact HB9.out | apply below_alloc | apply pw_below_drewN | apply below_drew1) | exact HB9.out)) hb)
  clear hb ho0
  obtain ⟨Ao, co, eo_⟩ := Kd.R_slice HOo10.out
  subst eo_
  refine hK.out _ _ ((blk_cell (by (with_reducible repeat (first | refine blk_drewN ?_ _ | refine blk_drew ?_ | refine blk_alloc ?_ _)); exact BKT10.out) 0).trans rfl) (fun hHeld => ?_)
  clear hK K
  refine norm_ (a' := ?_) ?_ ?_
  rotate_left
  ·show Act.put _ (some 26) _ = _
   simp only [Act.put, List.setIfInBounds_toArray, List.set_cons_zero, List.set_cons_succ, i64_w, i32_w]
   rfl
  refine pure_ (i := 7) (N := some 27) (v := ?_) (a' := ?_) #[true, true, true, true, true, true, true, true, false, false, false] rfl rfl (any_of HT_.out (by kernel_rfl)) (fun _ _ _ h => h) (Or.inl ⟨by rfl, ?_⟩) ?_ ?_
  rotate_left
  ·intro w'
   go_simp
   with_reducible rfl
  rotate_left
  ·simp only [Act.put, List.setIfInBounds_toArray, List.set_cons_zero, List.set_cons_succ, i64_w, i32_w]
   rfl
  refine one_ (i := 8) (N := some 28) #[true, true, true, true, true, true, true, true, true, false, false] rfl rfl (one_of HT_.out (by kernel_rfl)) (by decide) (fun K hK => ?_)
  refine goesV_ Try.func40 (by kernel_rfl) rfl #[.func (.func 42) #[.slice Ao o.length co] #[], .pointer (some ⟨gt, 0, none⟩), .pointer (some ⟨go, 0, none⟩)] (by rfl) rfl rfl rfl (by (try simp only [List.map_toArray, List.map_cons, List.map_nil]); first | done | rfl | (simp [Act.eval]; done) | (simp [Act.eval]; rfl)) ?_
  refine (impl_StrongNumbers_1.calls k At ct t Ao co o p2 gt go s1 _ w _ ?sB GEO.out (fun e_ => HOT.out e_.symm) ?sT ?sO ?sF ?sc ?sG ?sd A5.out).mono ?_
  case sB => exact (by repeat (first | (with_reducible first | exact HB10.out | apply below_alloc | apply pw_below_drewN | apply below_drew1) | exact HB10.out))
  case sT => exact (by (with_reducible repeat (first | refine blk_drewN ?_ _ | refine blk_drew ?_ | refine blk_alloc ?_ _)); exact BKT10.out)
  case sO => exact (by (with_reducible repeat (first | refine blk_drewN ?_ _ | refine blk_drew ?_ | refine blk_alloc ?_ _)); exact BKO10.out)
  case sF => exact Kd.R_F (Kd.R_mono (Kd.R_types (by (with_reducible repeat (first | apply Kd.R_alloc | apply Kd.R_drewN | apply Kd.R_drew)); exact HO10.out) (by (with_reducible repeat (first | refine blk_drewN ?_ _ | refine blk_drew ?_ | refine blk_alloc ?_ _)); exact BKO10.out) (by decide)) (fun _ h_ => h_.2))
  case sc => exact (Kd.R_reads' HO10.out).2.1
  case sG => exact Kd.R_F (Kd.R_mono (Kd.R_types (by (with_reducible repeat (first | apply Kd.R_alloc | apply Kd.R_drewN | apply Kd.R_drew)); exact HOo10.out) (by (with_reducible repeat (first | refine blk_drewN ?_ _ | refine blk_drew ?_ | refine blk_alloc ?_ _)); exact BKO10.out) (by decide)) (fun _ h_ => h_.2))
  case sd => exact (Kd.R_reads' HOo10.out).2.1
  rintro e w11 ⟨rfl, hbo, hB, hk⟩
  refine ⟨_, rfl, ?_⟩
  have HB11 := Aside0.mk hB
  have BKO11 := Aside0.mk hbo
  have BKT11 := Aside0.mk (blk_kept (by (with_reducible repeat (first | refine blk_drewN ?_ _ | refine blk_drew ?_ | refine blk_alloc ?_ _)); exact BKT10.out) hk (fun e_ => HOT.out e_.symm))
  have BKP11 := Aside0.mk (blk_kept (by (with_reducible repeat (first | refine blk_drewN ?_ _ | refine blk_drew ?_ | refine blk_alloc ?_ _)); exact BKP10.out) hk (fun e_ => HPO.out e_))
  have HO11 := Aside0.mk (Kd.R_mono (ok' := fun _ => True) (Kd.R_kept (Kd.R_mono (Kd.R_types (by (with_reducible repeat (first | apply Kd.R_alloc | apply Kd.R_drewN | apply Kd.R_drew)); exact HO10.out) (by (with_reducible repeat (first | refine blk_drewN ?_ _ | refine blk_drew ?_ | refine blk_alloc ?_ _)); exact BKO10.out) (by decide)) (fun _ h_ => h_.2)) hk (fun _ h_ e_ => h_ e_)) (fun _ _ => trivial))
  clear hB hbo hk
  refine hK.out _ _ ((blk_cell (by (with_reducible repeat (first | refine blk_drewN ?_ _ | refine blk_drew ?_ | refine blk_alloc ?_ _)); exact BKT11.out) 0).trans rfl) (fun hHeld => ?_)
  clear hK K
  refine norm_ (a' := ?_) ?_ ?_
  rotate_left
  ·show Act.put _ (some 28) _ = _
   simp only [Act.put, List.setIfInBounds_toArray, List.set_cons_zero, List.set_cons_succ, i64_w, i32_w]
   rfl
  refine pure_ (i := 9) (N := some 8) (v := ?_) (a' := ?_) #[true, true, true, true, true, true, true, true, true, true, false] rfl rfl (any_of HT_.out (by kernel_rfl)) (fun _ _ _ h => h) (Or.inl ⟨by rfl, ?_⟩) ?_ ?_
  rotate_left
  ·intro w'
   go_simp
   with_reducible rfl
  rotate_left
  ·simp only [Act.put, List.setIfInBounds_toArray, List.set_cons_zero, List.set_cons_succ, i64_w, i32_w]
   rfl
  refine pure_ (i := 10) (N := some 9) (v := ?_) (a' := ?_) #[true, true, true, true, true, true, true, true, true, true, true] rfl rfl (any_of HT_.out (by kernel_rfl)) (fun _ _ _ h => h) (Or.inl ⟨by rfl, ?_⟩) ?_ ?_
  rotate_left
  ·intro w'
   go_simp
   with_reducible rfl
  rotate_left
  ·simp only [Act.put, List.setIfInBounds_toArray, List.set_cons_zero, List.set_cons_succ, i64_w, i32_w]
   rfl
  refine done_ (done_of HT_.out (by kernel_rfl)) ?_
  have hz13p0 := (blk_cell BKP11.out 0).trans (rfl : _ = some (Value.int .i64 a0_0))
  have hz13o := (blk_cell BKO11.out 0).trans (rfl : _ = some (Value.bool s2))
  have HB := HB11
  have H := H'.out
  clear H'
  cases s2 with
  | false =>
   rw [if_neg (by simp)] at H
   simp only [Option.some.injEq, Prod.mk.injEq] at H
   obtain ⟨rfl, rfl⟩ := H
   go_wp2
   go_ret2
   exact ⟨_, by first | rfl | (simp; done) | (simp [*]; done), Kd.R_nil _ _ _ _ _, by repeat (first | (with_reducible first | exact HB.out | apply below_alloc | apply pw_below_drewN | apply below_drew1) | exact HB.out)⟩
  | true =>
   rw [if_pos rfl] at H
   by_cases c1 : p1 < 0
   ·rw [if_pos c1] at H
    simp only [Option.some.injEq, Prod.mk.injEq] at H
    obtain ⟨rfl, rfl⟩ := H
    have d1 : decide (p1 < 0) = true := decide_eq_true c1
    go_wp2
    go_ret2
    exact ⟨_, by first | rfl | (simp; done) | (simp [*]; done), Kd.R_nil _ _ _ _ _, by repeat (first | (with_reducible first | exact HB.out | apply below_alloc | apply pw_below_drewN | apply below_drew1) | exact HB.out)⟩
   ·rw [if_neg c1] at H
    have d1 : decide (p1 < 0) = false := decide_eq_false c1
    by_cases c2 : s1 < 0
    ·rw [if_pos c2] at H
     simp only [Option.some.injEq, Prod.mk.injEq] at H
     obtain ⟨rfl, rfl⟩ := H
     have d2 : decide (s1 < 0) = true := decide_eq_true c2
     go_wp2
     go_ret2
     exact ⟨_, by first | rfl | (simp; done) | (simp [*]; done), Kd.R_nil _ _ _ _ _, by repeat (first | (with_reducible first | exact HB.out | apply below_alloc | apply pw_below_drewN | apply below_drew1) | exact HB.out)⟩
    ·rw [if_neg c2] at H
     simp only [Option.some.injEq, Prod.mk.injEq] at H
     obtain ⟨rfl, rfl⟩ := H
     have d2 : decide (s1 < 0) = false := decide_eq_false c2
     go_wp2_with (((with_reducible refine gate_dst (N := 44) rfl ?_); refine Kd.R_lit (Kd.int .i64) _ 3 ?hg (N := 44) ?hd (xs := ([a0_0, q1, p1, s1] : List Int)) (inner := [.int .i64 a0_0, .int .i64 q1, .int .i64 p1, .int .i64 s1]) (ok := fun _ => True) (okp := fun _ => True) ?hr ?hp (fun _ hk => hk) trivial (Below.refl _ _) (Nat.le_refl _) (by simp) ?_; (case hd => rfl); (case hg => rfl); (case hr => first | (go_simp; done) | (go_simp; rfl)); (case hp => exact (Reps.one (show Kd.M (Kd.int .i64) _ _ _ a0_0 [.int .i64 a0_0] from rfl) (Reps.one (show Kd.M (Kd.int .i64) _ _ _ q1 [.int .i64 q1] from rfl) (Reps.one (show Kd.M (Kd.int .i64) _ _ _ p1 [.int .i64 p1] from rfl) (Reps.one (show Kd.M (Kd.int .i64) _ _ _ s1 [.int .i64 s1] from rfl) (Reps.none _ _)))))); intro vL wL hoL hb hg_ hnew_; clear hg_ hnew_; have HOL := Aside0.mk (Kd.R_lower hoL (below_size (by repeat (first | (with_reducible first | exact HB.out | apply below_alloc | apply pw_below_drewN | apply below_drew1) | exact HB.out)))); have HBL := Aside0.mk (below_step (by repeat (first | (with_reducible first | exact HB.out | apply below_alloc | apply pw_below_drewN | apply below_drew1) | exact HB.out)) hb); clear hb hoL))
     go_ret2
     exact ⟨_, by first | rfl | (simp; done) | (simp [*]; done), by (with_reducible repeat (first | apply Kd.R_alloc | apply Kd.R_drewN | apply Kd.R_drew)); exact HOL.out, by repeat (first | (with_reducible first | exact HBL.out | apply below_alloc | apply pw_below_drewN | apply below_drew1) | exact HBL.out)⟩

end Go.Proofs.Ytagdkekkbdonfaa.Q
