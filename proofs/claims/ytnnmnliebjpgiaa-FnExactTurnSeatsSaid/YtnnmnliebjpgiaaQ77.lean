import Derived.Test.YtnnmnliebjpgiaaQ0
import Derived.Test.YtnnmnliebjpgiaaQ76
import Derived.Test.YtnnmnliebjpgiaaReverse
namespace Go.Proofs.Ytnnmnliebjpgiaa.Q
open Go.RowKit Go.Proofs.YtnnmnliebjpgiaaW.PrintWords Go.Proofs.YtnnmnliebjpgiaaW.PrintLast Go.Proofs.YtnnmnliebjpgiaaW.PrintMore
attribute [local go_sem] max2_int min2_int max_two min_two max_three min_three max_four min_four   -- for this text's walks alone
set_option linter.unusedVariables false
set_option linter.unusedSimpArgs false

/-! ### impl_turned: function 55 (proved by hand) -/
/-- The list with a part of it in the other order. -/
def impl_turned.f (l0 : List Int) (a1 : Int) (a2 : Int) : Option (List Int) := if l0.length < 17592186044416 then (if 0 ≤ a1 ∧ a1 ≤ a2 ∧ a2 < (l0.length : Int) then some (l0.take a1.toNat ++ ((l0.drop a1.toNat).take (a2 + 1 - a1).toNat).reverse ++ l0.drop (a2 + 1).toNat) else none) else none
set_option maxHeartbeats 8000000 in
set_option maxRecDepth 100000 in
theorem impl_turned.calls (A0 : Option Addr) (c0 : Nat) (l0 : List Int) (a1 : Int) (a2 : Int) (r : List Int) (w : World) (hr0 : Kd.C (Kd.int .i64) w A0 l0.length l0) (hc0 : l0.length ≤ c0) (h : impl_turned.f l0 a1 a2 = some r) :
  Calls Try.prog 55 #[.slice A0 l0.length c0, .int .i64 a1, .int .i64 a2] w fun e w' => ∃ v0_ : Value, e = .returned (v0_) ∧ Kd.R (Kd.int .i64) 3 w' w.heap.size (fun _ => True) v0_ r ∧ Below w.heap.size w w' := by
 have HR0 := Aside0.mk hr0
 clear hr0
 unfold impl_turned.f at h
 by_cases hl : l0.length < 17592186044416
 ·rw [if_pos hl] at h
  by_cases hb : 0 ≤ a1 ∧ a1 ≤ a2 ∧ a2 < (l0.length : Int)
  ·rw [if_pos hb] at h
   obtain rfl := Option.some.inj h
   clear h
   obtain ⟨b0, b1, b2⟩ := hb
   obtain ⟨i, rfl⟩ := Int.eq_ofNat_of_zero_le b0
   obtain ⟨m, hm⟩ : ∃ m : Nat, a2 + 1 = ((i + m : Nat) : Int) := ⟨(a2 + 1 - (i : Int)).toNat, by omega⟩
   have ha2 : a2 = ((i + m : Nat) : Int) - 1 := by omega
   subst ha2
   have hw : wrap64 (((i + m : Nat) : Int) - 1 + 1) = ((i + m : Nat) : Int) := by unfold wrap64; omega
   have hm1 : 1 ≤ m := by omega
   have hml : i + m ≤ l0.length := by omega
   rw [show (((i + m : Nat) : Int) - 1 + 1 - (i : Int)).toNat = m by omega, show (((i + m : Nat) : Int) - 1 + 1).toNat = i + m by omega, Int.toNat_natCast]
   have HC : Aside0 (slices_Clone_int_int.f l0 = some l0) := ⟨by unfold slices_Clone_int_int.f; rw [if_pos hl]⟩
   have hzl : ((l0.drop i).take m).length = m := by rw [List.length_take, List.length_drop]; omega
   have HV : Aside0 (∀ (blk cap : Nat) (W : World), Go.Sort.Holds (Value.int .i64) W blk i ((l0.drop i).take m).toArray → Calls Try.prog 76 #[.slice (some ⟨blk, i, none⟩) m cap] W fun e w' => e = .returned (.tuple #[]) ∧ ∃ n, w' = Go.Sort.putRow (Value.int .i64) (Go.Sort.ahead W n) blk i ((l0.drop i).take m).reverse.toArray) :=
    ⟨fun blk cap W hH => by have q := Try.slices_Reverse_int blk i cap ((l0.drop i).take m) W hH (by omega); rwa [hzl] at q⟩
   have q0 : (0 : Int) ≤ (i : Int) + (m : Int) := by omega
   have q1 : (i : Int) ≤ (i : Int) + (m : Int) := by omega
   have q2 : (0 : Int) ≤ (i : Int) := by omega
   clear b0 b1 b2 hm
   have hpz : ∀ j, (hj : j < ((l0.drop i).take m).length) → ((l0.drop i).take m)[j] = l0[i + j] := by intro j hj; simp
   have hyl : Aside0 (i + ((l0.drop i).take m).reverse.length = i + m) := ⟨by rw [List.length_reverse, hzl]⟩
   go_enter Try.func55, Try.ntmps55
   go_wp2_with (first | (go_at_call 75; refine (slices_Clone_int_int.calls A0 c0 l0 l0 _ ?k1 hc0 HC.out).mono ?_; (case k1 => repeat (first | exact HR0.out | (with_reducible refine Kd.C_alloc ?_ _) | (with_reducible refine Kd.C_drewN ?_ _) | (with_reducible refine Kd.C_drew ?_))); rintro e w2 ⟨v, rfl, ho, hb⟩; have hown := Kd.own_of_R ho; obtain ⟨gb, cap, e1, hg1, hg2, hg3⟩ := Kd.R_form ho (by omega); subst e1; have hcp := (Kd.R_reads' ho).2.1; have q3 : (i : Int) + (m : Int) ≤ (cap : Int) := (by omega); have q4 : ¬ (cap = i) := (by omega); obtain ⟨hH, hbs, hR⟩ := part_of_own (off := i) (zs := (l0.drop i).take m) (ys := ((l0.drop i).take m).reverse) hown (by omega) (by omega) hpz (by simp); rw [hyl.out] at hR; have HH := Aside0.mk hH; have HRX := Aside0.mk hR; have HB := Aside0.mk hb; replace hbs := Aside0.mk hbs; clear ho hb hown hH hR) | (go_at_call 76; refine (HV.out gb _ _ ?k1).mono ?_; (case k1 => exact HH.out); rintro e w' ⟨rfl, q, rfl⟩; have HRR := Aside0.mk (HRX.out q); have HBB := Aside0.mk (below_part (n := q) (off := i) (d := ((l0.drop i).take m).reverse.toArray) HB.out hbs.out)))
   go_ret
   exact ⟨_, rfl, HRR.out, HBB.out⟩
  ·rw [if_neg hb] at h; cases h
 ·rw [if_neg hl] at h; cases h

end Go.Proofs.Ytnnmnliebjpgiaa.Q
