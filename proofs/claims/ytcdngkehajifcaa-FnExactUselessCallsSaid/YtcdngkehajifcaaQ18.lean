import Derived.Test.YtcdngkehajifcaaQ0
import Derived.Test.YtcdngkehajifcaaQ16
namespace Go.Proofs.Ytcdngkehajifcaa.Q
open Go.RowKit Go.Proofs.YtcdngkehajifcaaW.PrintWords Go.Proofs.YtcdngkehajifcaaW.PrintLast Go.Proofs.YtcdngkehajifcaaW.PrintMore
attribute [local go_sem] max2_int min2_int max_two min_two max_three min_three max_four min_four   -- for this text's walks alone
set_option linter.unusedVariables false
set_option linter.unusedSimpArgs false

/-! ### impl_areSome: function 70 -/
def impl_areSome.f (a0 : Int) : Option (Bool) := (impl_within.f a0 1 12).bind fun t222 => (some t222)
set_option maxHeartbeats 8000000 in
set_option maxRecDepth 100000 in
theorem impl_areSome.calls (a0 : Int) (r : Bool) (w : World) (h : impl_areSome.f a0 = some r) :
  Calls Try.prog 70 #[.int .i64 a0] w fun e w' => e = .returned (.bool r) ∧ Drawn0 w w' := by
 have H : ((impl_within.f a0 1 12).bind fun t222 => (some t222)) = some r := h
 clear h
 replace H := Option.bind_eq_some_iff.mp H
 obtain ⟨t222, A20, H⟩ := H
 replace H : (some t222) = some r := H
 have A2 := Aside0.mk A20
 clear A20
 obtain rfl := Option.some.inj H
 go_enter Try.func70, Try.ntmps70
 go_wp2_with (first | ((with_reducible refine gate_callee (f := 84) rfl ?_); refine goesL_ (some 4) rfl rfl Try.func84 (by kernel_rfl) rfl #[.int .i64 a0, .int .i64 1, .int .i64 12] rfl (by (try simp only [List.map_toArray, List.map_cons, List.map_nil]); first | done | rfl | (simp only [List.length_drop, List.length_take]; rfl)) ?_; (with_reducible refine (impl_within.calls a0 1 12 t222 _ A2.out).mono ?_); rintro e w' ⟨rfl, ⟨nd, rfl⟩⟩; refine ⟨_, rfl, ?_⟩))
 go_ret
 exact ⟨by first | rfl | (simp; done) | (simp [*]; done), by repeat (first | exact Drawn0.refl _ | apply Drawn0.step)⟩

end Go.Proofs.Ytcdngkehajifcaa.Q
namespace Go.Proofs.Ytcdngkehajifcaa.Q
open Go.RowKit Go.Proofs.YtcdngkehajifcaaW.PrintWords Go.Proofs.YtcdngkehajifcaaW.PrintLast Go.Proofs.YtcdngkehajifcaaW.PrintMore
attribute [local go_sem] max2_int min2_int max_two min_two max_three min_three max_four min_four   -- for this text's walks alone
set_option linter.unusedVariables false
set_option linter.unusedSimpArgs false

/-! ### impl_AreCalls: function 76 (proved by hand) -/
/-- A pair of numbers that is no call. -/
def impl_AreCalls.bad (n : Int) (x : S91) : Bool := decide (x.f0 < 0) || (decide (x.f0 ≥ x.f1) || decide (x.f1 ≥ n))
/-- A list of calls of n people. -/
def impl_AreCalls.f (a0 : Int) (l1 : List (S91)) : Option (Bool) := (impl_areSome.f a0).bind fun t => some (t && (decide ((l1.length : Int) ≤ 60) && !(l1.any (impl_AreCalls.bad a0))))
set_option maxHeartbeats 8000000 in
set_option maxRecDepth 100000 in
theorem impl_AreCalls.one (x0 x1 n : Int) (b1 : Nat) (W : World) (h1 : W.cell? ⟨b1, 0, none⟩ = some (.int .i64 n)) :
  Calls Try.prog 103 #[.agg #[.int .i64 x0, .int .i64 x1], .pointer (some ⟨b1, 0, none⟩)] W fun e w' => e = .returned (.bool (impl_AreCalls.bad n ⟨x0, x1⟩)) ∧ Below W.heap.size W w' := by
 have hu := Try.underlying91
 have H1 := Aside0.mk h1
 have hlt := Aside0.mk (World.block_lt_of_cell? W _ h1)
 clear h1
 have HB := Aside0.mk (Below.refl W.heap.size W)
 unfold impl_AreCalls.bad
 dsimp only
 by_cases c0 : x0 < 0
 ·have d0 : decide (x0 < 0) = true := decide_eq_true c0
  rw [d0]
  simp only [Bool.true_or]
  clear c0
  go_enter Try.func103, Try.ntmps103
  go_wp2_with ((with_reducible refine gate_dst (N := 2) rfl ?_); refine box_event ?hg (N := 2) ?hd (cs := #[.int .i64 x0, .int .i64 x1]) (t := 91) ?hr ?_; (case hd => rfl); (case hg => rfl); (case hr => first | (go_simp; done) | (go_simp; rfl)); intro gb hg w6 hbox hb; have HB := Aside0.mk (below_step HB.out hb); clear hb hg; have hz0 : w6.cell? ⟨gb, 0, none⟩ = some (.int .i64 x0) := (blk_cell hbox 0).trans rfl; have hz1 : w6.cell? ⟨gb, 1, none⟩ = some (.int .i64 x1) := (blk_cell hbox 1).trans rfl; have hz2 : w6.cell? ⟨b1, 0, none⟩ = some (.int .i64 n) := (HB.out.cell hlt.out).trans H1.out; replace hbox := Aside0.mk hbox)
  go_ret
  exact ⟨by first | rfl | (simp; done) | (simp [*]; done), by repeat (first | (with_reducible first | exact HB.out | apply below_alloc | apply pw_below_drewN | apply below_drew1) | exact HB.out)⟩
 ·have d0 : decide (x0 < 0) = false := decide_eq_false c0
  rw [d0]
  simp only [Bool.false_or]
  clear c0
  by_cases c1 : x0 ≥ x1
  ·have d1 : decide (x0 ≥ x1) = true := decide_eq_true c1
   have d1' : decide (x1 ≤ x0) = true := decide_eq_true c1
   rw [d1]
   simp only [Bool.true_or]
   clear c1
   go_enter Try.func103, Try.ntmps103
   go_wp2_with ((with_reducible refine gate_dst (N := 2) rfl ?_); refine box_event ?hg (N := 2) ?hd (cs := #[.int .i64 x0, .int .i64 x1]) (t := 91) ?hr ?_; (case hd => rfl); (case hg => rfl); (case hr => first | (go_simp; done) | (go_simp; rfl)); intro gb hg w6 hbox hb; have HB := Aside0.mk (below_step HB.out hb); clear hb hg; have hz0 : w6.cell? ⟨gb, 0, none⟩ = some (.int .i64 x0) := (blk_cell hbox 0).trans rfl; have hz1 : w6.cell? ⟨gb, 1, none⟩ = some (.int .i64 x1) := (blk_cell hbox 1).trans rfl; have hz2 : w6.cell? ⟨b1, 0, none⟩ = some (.int .i64 n) := (HB.out.cell hlt.out).trans H1.out; replace hbox := Aside0.mk hbox)
   go_ret
   exact ⟨by first | rfl | (simp; done) | (simp [*]; done), by repeat (first | (with_reducible first | exact HB.out | apply below_alloc | apply pw_below_drewN | apply below_drew1) | exact HB.out)⟩
  ·have d1 : decide (x0 ≥ x1) = false := decide_eq_false c1
   have d1' : decide (x1 ≤ x0) = false := decide_eq_false c1
   rw [d1]
   simp only [Bool.false_or]
   clear c1
   go_enter Try.func103, Try.ntmps103
   go_wp2_with ((with_reducible refine gate_dst (N := 2) rfl ?_); refine box_event ?hg (N := 2) ?hd (cs := #[.int .i64 x0, .int .i64 x1]) (t := 91) ?hr ?_; (case hd => rfl); (case hg => rfl); (case hr => first | (go_simp; done) | (go_simp; rfl)); intro gb hg w6 hbox hb; have HB := Aside0.mk (below_step HB.out hb); clear hb hg; have hz0 : w6.cell? ⟨gb, 0, none⟩ = some (.int .i64 x0) := (blk_cell hbox 0).trans rfl; have hz1 : w6.cell? ⟨gb, 1, none⟩ = some (.int .i64 x1) := (blk_cell hbox 1).trans rfl; have hz2 : w6.cell? ⟨b1, 0, none⟩ = some (.int .i64 n) := (HB.out.cell hlt.out).trans H1.out; replace hbox := Aside0.mk hbox)
   go_ret
   exact ⟨by first | rfl | (simp; done) | (simp [*]; done), by repeat (first | (with_reducible first | exact HB.out | apply below_alloc | apply pw_below_drewN | apply below_drew1) | exact HB.out)⟩
set_option maxHeartbeats 8000000 in
set_option maxRecDepth 100000 in
/-- slices.IndexFunc over pairs, at this function value, the captured variable's cell being told. -/
theorem impl_AreCalls.idx (A0 : Option Addr) (c0 : Nat) (l0 : List (S91)) (n : Int) (b1 : Nat) (w : World) (hr0 : Kd.C k91 w A0 l0.length l0) (h1 : w.cell? ⟨b1, 0, none⟩ = some (.int .i64 n)) :
  Calls Try.prog 114 #[.slice A0 l0.length c0, .func (.func 103) #[] #[.pointer (some ⟨b1, 0, none⟩)]] w fun e w' => (∃ i : Int, e = .returned (.int .i64 i) ∧ decide (0 ≤ i) = l0.any (impl_AreCalls.bad n)) ∧ Below w.heap.size w w' := by
 have hu := Try.underlying91
 have HR0 := Aside0.mk hr0
 have H1 := Aside0.mk h1
 have hlt := Aside0.mk (World.block_lt_of_cell? w _ h1)
 have hlen : l0.length ≤ 9223372036854775807 := Kd.C_max hr0
 have HP : Aside0 (∀ (x : S91) (W : World), Below w.heap.size w W → Calls Try.prog 103 #[.agg #[.int .i64 x.f0, .int .i64 x.f1], .pointer (some ⟨b1, 0, none⟩)] W fun e w' => e = .returned (.bool (impl_AreCalls.bad n x)) ∧ Below W.heap.size W w') :=
  ⟨fun x W hb => impl_AreCalls.one x.f0 x.f1 n b1 W ((hb.cell hlt.out).trans H1.out)⟩
 clear hr0 h1
 generalize impl_AreCalls.bad n = p at HP ⊢
 go_enter Try.func114, Try.ntmps114
 go_wp2
 go_loopg [5, 8] l0.length (fun gg _ s8 wr => ∃ kk : Nat, kk ≤ l0.length ∧ l0.length - kk ≤ gg ∧ s8 = .int .i64 kk ∧ Aside0 (Below w.heap.size w wr) ∧ Aside0 ((l0.take kk).any p = false))
 case atStart => exact ⟨0, Nat.zero_le _, by omega, rfl, ⟨Below.refl _ _⟩, ⟨by simp⟩⟩
 case round =>
  obtain ⟨kk, hkk, hg, rfl, HB, A⟩ := hrel
  by_cases hlt2 : kk < l0.length
  ·have h0 : (0 : Int) ≤ (kk : Int) := by omega
   have h1 : (kk : Int) < (l0.length : Int) := by omega
   obtain ⟨ad, e, hx0, hx1⟩ := at_T91 HR0.out (kk : Int) h0 h1
   cases e
   (try (replace hx0 := (HB.out.cell (World.block_lt_of_cell? w _ hx0)).trans hx0))
   (try (replace hx1 := (HB.out.cell (World.block_lt_of_cell? w _ hx1)).trans hx1))
   rw [Int.toNat_natCast] at hx0 hx1
   have hc := HP.out (rd_T91 l0 (kk : Int)) wr HB.out
   have B := Aside0.mk (show rd_T91 l0 (kk : Int) = l0[kk] by simp [rd_T91, hlt2])
   cases hq : p (rd_T91 l0 (kk : Int)) with
   | true =>
    rw [hq] at hc
    replace hq := Aside0.mk hq
    go_wp2_with (go_at_call 103; refine hc.mono ?_; rintro e w' ⟨rfl, hb⟩; have HB := Aside0.mk (below_step HB.out hb); clear hb)
    go_ret
    refine ⟨⟨_, rfl, ?_⟩, by repeat (first | (with_reducible first | exact HB.out | apply below_alloc | apply pw_below_drewN | apply below_drew1) | exact HB.out)⟩
    have e1 : l0.any p = true := List.any_eq_true.mpr ⟨l0[kk], List.getElem_mem _, by rw [← B.out]; exact hq.out⟩
    rw [e1]; simp
   | false =>
    rw [hq] at hc
    replace hq := Aside0.mk hq
    go_wp2_with (go_at_call 103; refine hc.mono ?_; rintro e w' ⟨rfl, hb⟩; have HB := Aside0.mk (below_step HB.out hb); clear hb)
    go_roundg (l0.length - (kk + 1))
    case measure => omega
    case rel =>
     refine ⟨kk + 1, by omega, by omega, by go_num, ⟨by repeat (first | (with_reducible first | exact HB.out | apply below_alloc | apply pw_below_drewN | apply below_drew1) | exact HB.out)⟩, ⟨?_⟩⟩
     rw [List.take_succ_eq_append_getElem hlt2, List.any_append, A.out, ← B.out]
     simp [hq.out]
  ·have h1 : ¬ (kk : Int) < (l0.length : Int) := by omega
   have e1 : kk = l0.length := by omega
   have A' := A.out
   rw [e1, List.take_length] at A'
   replace A' := Aside0.mk A'
   clear A e1
   go_wp2
   go_ret
   refine ⟨⟨_, rfl, ?_⟩, by repeat (first | (with_reducible first | exact HB.out | apply below_alloc | apply pw_below_drewN | apply below_drew1) | exact HB.out)⟩
   rw [A'.out]; rfl
set_option maxHeartbeats 8000000 in
set_option maxRecDepth 100000 in
theorem impl_AreCalls.cont (A0 : Option Addr) (c0 : Nat) (l0 : List (S91)) (n : Int) (b1 : Nat) (w : World) (hr0 : Kd.C k91 w A0 l0.length l0) (h1 : w.cell? ⟨b1, 0, none⟩ = some (.int .i64 n)) :
  Calls Try.prog 102 #[.slice A0 l0.length c0, .func (.func 103) #[] #[.pointer (some ⟨b1, 0, none⟩)]] w fun e w' => e = .returned (.bool (l0.any (impl_AreCalls.bad n))) ∧ Below w.heap.size w w' := by
 have HC := Aside0.mk (impl_AreCalls.idx A0 c0 l0 n b1 w hr0 h1)
 clear hr0 h1
 go_enter Try.func102, Try.ntmps102
 go_wp2_with (go_at_call 114; refine HC.out.mono ?_; rintro e w' ⟨⟨i, rfl, hi⟩, hb⟩; replace hi := Aside0.mk hi; have HB := Aside0.mk hb; clear hb)
 go_ret
 exact ⟨by rw [← hi.out]; rfl, by repeat (first | (with_reducible first | exact HB.out | apply below_alloc | apply pw_below_drewN | apply below_drew1) | exact HB.out)⟩
set_option maxHeartbeats 8000000 in
set_option maxRecDepth 100000 in
theorem impl_AreCalls.calls (a0 : Int) (A1 : Option Addr) (c1 : Nat) (l1 : List (S91)) (r : Bool) (w : World) (hr1 : Kd.C k91 w A1 l1.length l1) (hc1 : l1.length ≤ c1) (h : impl_AreCalls.f a0 l1 = some r) :
  Calls Try.prog 76 #[.int .i64 a0, .slice A1 l1.length c1] w fun e w' => e = .returned (.bool r) ∧ Below w.heap.size w w' := by
 have HR1 := Aside0.mk hr1
 obtain ⟨t, ht, h⟩ := Option.bind_eq_some_iff.1 h
 obtain rfl := Option.some.inj h
 have A5 := Aside0.mk ht
 clear h ht hr1
 have HC : Aside0 (∀ (b1 : Nat) (W : World), Kd.C k91 W A1 l1.length l1 → W.cell? ⟨b1, 0, none⟩ = some (.int .i64 a0) →
   Calls Try.prog 102 #[.slice A1 l1.length c1, .func (.func 103) #[] #[.pointer (some ⟨b1, 0, none⟩)]] W fun e w' => e = .returned (.bool (l1.any (impl_AreCalls.bad a0))) ∧ Below W.heap.size W w') :=
  ⟨fun b1 W hr h1 => impl_AreCalls.cont A1 c1 l1 a0 b1 W hr h1⟩
 generalize l1.any (impl_AreCalls.bad a0) = z at HC ⊢
 have HB := Aside0.mk (Below.refl w.heap.size w)
 cases t with
 | false =>
  simp only [Bool.false_and]
  go_enter Try.func76, Try.ntmps76
  go_wp2_with (go_at_call 70; refine (impl_areSome.calls _ _ _ A5.out).mono ?_; rintro e w' ⟨rfl, ⟨nd, rfl⟩⟩)
  go_ret
  exact ⟨by first | rfl | (simp; done) | (simp [*]; done), by repeat (first | exact Below.refl _ _ | apply below_alloc | apply pw_below_drewN | apply below_drew1)⟩
 | true =>
  simp only [Bool.true_and]
  by_cases c2 : (l1.length : Int) ≤ 60
  ·have d2 : decide ((l1.length : Int) ≤ 60) = true := decide_eq_true c2
   rw [d2]
   simp only [Bool.true_and]
   clear c2
   go_enter Try.func76, Try.ntmps76
   go_wp2_with (first | (go_at_call 70; refine (impl_areSome.calls _ _ _ A5.out).mono ?_; rintro e w' ⟨rfl, ⟨nd, rfl⟩⟩) | (go_at_call 102; refine (HC.out _ _ ?k1 ?k2).mono ?_; (case k1 => repeat (first | exact HR1.out | (with_reducible refine Kd.C_alloc ?_ _) | (with_reducible refine Kd.C_drewN ?_ _) | (with_reducible refine Kd.C_drew ?_))); (case k2 => go_simp); rintro e w2 ⟨rfl, hb⟩; have HB2 := Aside0.mk (below_step (w := w) (by repeat (first | exact Below.refl _ _ | apply below_alloc | apply pw_below_drewN | apply below_drew1)) hb); clear hb))
   go_ret
   exact ⟨by first | rfl | (simp; done) | (simp [*]; done), by repeat (first | (with_reducible first | exact HB2.out | apply below_alloc | apply pw_below_drewN | apply below_drew1) | exact HB2.out)⟩
  ·have d2 : decide ((l1.length : Int) ≤ 60) = false := decide_eq_false c2
   rw [d2]
   simp only [Bool.false_and]
   clear c2
   go_enter Try.func76, Try.ntmps76
   go_wp2_with (go_at_call 70; refine (impl_areSome.calls _ _ _ A5.out).mono ?_; rintro e w' ⟨rfl, ⟨nd, rfl⟩⟩)
   go_ret
   exact ⟨by first | rfl | (simp; done) | (simp [*]; done), by repeat (first | exact Below.refl _ _ | apply below_alloc | apply pw_below_drewN | apply below_drew1)⟩

end Go.Proofs.Ytcdngkehajifcaa.Q
