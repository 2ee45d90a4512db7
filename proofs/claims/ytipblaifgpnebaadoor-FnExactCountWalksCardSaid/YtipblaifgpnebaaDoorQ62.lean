-- Written by wip/tools/gprint.py (the kit's print, with contracts of this session): Lean checks it.
import Derived.Test.YtipblaifgpnebaaDoorQ0
import Derived.Test.YtipblaifgpnebaaDoorQ11
namespace Go.Proofs.YtipblaifgpnebaaDoor.Q
open Go.RowKit Go.Proofs.YtipblaifgpnebaaDoorW.PrintWords Go.Proofs.YtipblaifgpnebaaDoorW.PrintLast Go.Proofs.YtipblaifgpnebaaDoorW.PrintMore
attribute [local go_sem] max2_int min2_int max_two min_two max_three min_three max_four min_four   -- for this text's walks alone
set_option linter.unusedVariables false
set_option linter.unusedSimpArgs false

/-! ### impl_areWithin: function 73 (proved by hand) -/
/-- All numbers of a list lie between two bounds. -/
def impl_areWithin.f (l0 : List Int) (a1 : Int) (a2 : Int) : Option (Bool) := some (l0.all fun x => decide (a1 ≤ x) && decide (x ≤ a2))
set_option maxHeartbeats 8000000 in
set_option maxRecDepth 100000 in
theorem impl_areWithin.one (x lo hi : Int) (b1 b2 : Nat) (W : World) (h1 : W.cell? ⟨b1, 0, none⟩ = some (.int .i64 lo)) (h2 : W.cell? ⟨b2, 0, none⟩ = some (.int .i64 hi)) :
  Calls Tryd.prog 82 #[.int .i64 x, .pointer (some ⟨b1, 0, none⟩), .pointer (some ⟨b2, 0, none⟩)] W fun e w' => e = .returned (.bool (!(decide (lo ≤ x) && decide (x ≤ hi)))) ∧ Drawn0 W w' := by
 have hw : impl_within.f x lo hi = some (decide (lo ≤ x) && decide (x ≤ hi)) := by
  unfold impl_within.f
  by_cases h : lo ≤ x <;> simp [h]
 have A7 := Aside0.mk hw
 clear hw
 generalize (decide (lo ≤ x) && decide (x ≤ hi)) = z at A7 ⊢
 go_enter Tryd.func82, Tryd.ntmps82
 go_wp2_with (go_at_call 67; refine (impl_within.calls _ _ _ _ _ A7.out).mono ?_; rintro e w' ⟨rfl, ⟨nd, rfl⟩⟩)
 go_ret
 exact ⟨by first | rfl | (simp; done) | (simp [*]; done), by repeat (first | exact Drawn0.refl _ | apply Drawn0.step)⟩
set_option maxHeartbeats 8000000 in
set_option maxRecDepth 100000 in
/-- slices.IndexFunc over whole numbers, at this function value, the captured variables being told by the premise. -/
theorem impl_areWithin.idx (A0 : Option Addr) (c0 : Nat) (l0 : List Int) (p : Int → Bool) (b1 b2 : Nat) (w : World) (hr0 : Kd.C (Kd.int .i64) w A0 l0.length l0)
  (hp : ∀ (x : Int) (q : Nat), Calls Tryd.prog 82 #[.int .i64 x, .pointer (some ⟨b1, 0, none⟩), .pointer (some ⟨b2, 0, none⟩)] (w.drewN q) fun e w' => e = .returned (.bool (p x)) ∧ Drawn0 (w.drewN q) w') :
  Calls Tryd.prog 88 #[.slice A0 l0.length c0, .func (.func 82) #[] #[.pointer (some ⟨b1, 0, none⟩), .pointer (some ⟨b2, 0, none⟩)]] w fun e w' => (∃ i : Int, e = .returned (.int .i64 i) ∧ decide (0 ≤ i) = l0.any p) ∧ Drawn0 w w' := by
 have HR0 := Aside0.mk hr0
 have HP := Aside0.mk hp
 have hlen : l0.length ≤ 9223372036854775807 := Kd.C_max hr0
 clear hr0 hp
 go_enter Tryd.func88, Tryd.ntmps88
 go_wp2
 go_loopg [5, 8] l0.length (fun gg _ s8 wr => ∃ kk q : Nat, kk ≤ l0.length ∧ l0.length - kk ≤ gg ∧ s8 = .int .i64 kk ∧ wr = w.drewN q ∧ Aside0 ((l0.take kk).any p = false))
 case atStart => exact ⟨0, 0, Nat.zero_le _, by omega, rfl, rfl, ⟨by simp⟩⟩
 case round =>
  obtain ⟨kk, q, hkk, hg, rfl, rfl, A⟩ := hrel
  by_cases hlt : kk < l0.length
  ·have h0 : (0 : Int) ≤ (kk : Int) := by omega
   have h1 : (kk : Int) < (l0.length : Int) := by omega
   obtain ⟨ad, e, hx⟩ := Kd.at_int HR0.out (kk : Int) h0 h1
   cases e
   rw [Int.toNat_natCast] at hx
   have hc := HP.out (rd l0 (kk : Int)) q
   have B := Aside0.mk (show rd l0 (kk : Int) = l0[kk] by simp [rd, hlt])
   cases hq : p (rd l0 (kk : Int)) with
   | true =>
    rw [hq] at hc
    replace hq := Aside0.mk hq
    go_wp2_with (go_at_call 82; refine hc.mono ?_; rintro e w' ⟨rfl, ⟨nd, rfl⟩⟩)
    go_ret
    refine ⟨⟨_, rfl, ?_⟩, by repeat (first | exact Drawn0.refl _ | apply Drawn0.step)⟩
    have e1 : l0.any p = true := List.any_eq_true.mpr ⟨l0[kk], List.getElem_mem _, by rw [← B.out]; exact hq.out⟩
    rw [e1]; simp
   | false =>
    rw [hq] at hc
    replace hq := Aside0.mk hq
    go_wp2_with (go_at_call 82; refine hc.mono ?_; rintro e w' ⟨rfl, ⟨nd, rfl⟩⟩)
    go_roundg (l0.length - (kk + 1))
    case measure => omega
    case rel =>
     refine ⟨kk + 1, _, by omega, by omega, by go_num, rfl, ⟨?_⟩⟩
     rw [List.take_succ_eq_append_getElem hlt, List.any_append, A.out, ← B.out]
     simp [hq.out]
  ·have h1 : ¬ (kk : Int) < (l0.length : Int) := by omega
   have e1 : kk = l0.length := by omega
   have A' := A.out
   rw [e1, List.take_length] at A'
   replace A' := Aside0.mk A'
   clear A e1
   go_wp2
   go_ret
   refine ⟨⟨_, rfl, ?_⟩, by repeat (first | exact Drawn0.refl _ | apply Drawn0.step)⟩
   rw [A'.out]; rfl
set_option maxHeartbeats 8000000 in
set_option maxRecDepth 100000 in
theorem impl_areWithin.cont (A0 : Option Addr) (c0 : Nat) (l0 : List Int) (p : Int → Bool) (b1 b2 : Nat) (w : World) (hr0 : Kd.C (Kd.int .i64) w A0 l0.length l0)
  (hp : ∀ (x : Int) (q : Nat), Calls Tryd.prog 82 #[.int .i64 x, .pointer (some ⟨b1, 0, none⟩), .pointer (some ⟨b2, 0, none⟩)] (w.drewN q) fun e w' => e = .returned (.bool (p x)) ∧ Drawn0 (w.drewN q) w') :
  Calls Tryd.prog 81 #[.slice A0 l0.length c0, .func (.func 82) #[] #[.pointer (some ⟨b1, 0, none⟩), .pointer (some ⟨b2, 0, none⟩)]] w fun e w' => e = .returned (.bool (l0.any p)) ∧ Drawn0 w w' := by
 have HC := Aside0.mk (impl_areWithin.idx A0 c0 l0 p b1 b2 w hr0 hp)
 clear hr0 hp
 go_enter Tryd.func81, Tryd.ntmps81
 go_wp2_with (go_at_call 88; refine HC.out.mono ?_; rintro e w' ⟨⟨i, rfl, hi⟩, ⟨nd, rfl⟩⟩; replace hi := Aside0.mk hi)
 go_ret
 exact ⟨by rw [← hi.out]; rfl, by repeat (first | exact Drawn0.refl _ | apply Drawn0.step)⟩
set_option maxHeartbeats 8000000 in
set_option maxRecDepth 100000 in
theorem impl_areWithin.calls (A0 : Option Addr) (c0 : Nat) (l0 : List Int) (a1 : Int) (a2 : Int) (r : Bool) (w : World) (hr0 : Kd.C (Kd.int .i64) w A0 l0.length l0) (hc0 : l0.length ≤ c0) (h : impl_areWithin.f l0 a1 a2 = some r) :
  Calls Tryd.prog 73 #[.slice A0 l0.length c0, .int .i64 a1, .int .i64 a2] w fun e w' => e = .returned (.bool r) ∧ Below w.heap.size w w' := by
 have HR0 := Aside0.mk hr0
 obtain rfl := Option.some.inj h
 clear h hr0
 have HC : Aside0 (∀ (b1 b2 : Nat) (W : World), Kd.C (Kd.int .i64) W A0 l0.length l0 → W.cell? ⟨b1, 0, none⟩ = some (.int .i64 a1) → W.cell? ⟨b2, 0, none⟩ = some (.int .i64 a2) →
   Calls Tryd.prog 81 #[.slice A0 l0.length c0, .func (.func 82) #[] #[.pointer (some ⟨b1, 0, none⟩), .pointer (some ⟨b2, 0, none⟩)]] W fun e w' => e = .returned (.bool (l0.any fun x => !(decide (a1 ≤ x) && decide (x ≤ a2)))) ∧ Drawn0 W w') :=
  ⟨fun b1 b2 W hr h1 h2 => impl_areWithin.cont A0 c0 l0 _ b1 b2 W hr (fun x q => impl_areWithin.one x a1 a2 b1 b2 (W.drewN q) h1 h2)⟩
 have HZ : Aside0 ((!(l0.any fun x => !(decide (a1 ≤ x) && decide (x ≤ a2)))) = l0.all fun x => decide (a1 ≤ x) && decide (x ≤ a2)) := ⟨by rw [List.not_any_eq_all_not]; simp⟩
 generalize (l0.any fun x => !(decide (a1 ≤ x) && decide (x ≤ a2))) = z at HC HZ
 generalize (l0.all fun x => decide (a1 ≤ x) && decide (x ≤ a2)) = y at HZ ⊢
 go_enter Tryd.func73, Tryd.ntmps73
 go_wp2_with (go_at_call 81; refine (HC.out _ _ _ ?k1 ?k2 ?k3).mono ?_; (case k1 => exact Kd.C_alloc (Kd.C_alloc HR0.out _) _); (case k2 => go_simp); (case k3 => go_simp); rintro e w' ⟨rfl, ⟨nd, rfl⟩⟩)
 go_ret
 exact ⟨by rw [← HZ.out]; rfl, by repeat (first | exact Below.refl _ _ | apply below_alloc | apply pw_below_drewN | apply below_drew1)⟩

end Go.Proofs.YtipblaifgpnebaaDoor.Q
