import Derived.Test.YtlacnnnmeolomaaQ0
import Derived.Test.YtlacnnnmeolomaaQ53
import Derived.Test.YtlacnnnmeolomaaQ56
import Derived.Test.YtlacnnnmeolomaaSorted
namespace Go.Proofs.Ytlacnnnmeolomaa.Q
open Go.RowKit Go.Proofs.YtlacnnnmeolomaaW.PrintWords Go.Proofs.YtlacnnnmeolomaaW.PrintLast Go.Proofs.YtlacnnnmeolomaaW.PrintMore
attribute [local go_sem] max2_int min2_int max_two min_two max_three min_three max_four min_four   -- for this text's walks alone
set_option linter.unusedVariables false
set_option linter.unusedSimpArgs false

/-! ### impl_told: function 74 (proved by hand) -/
/-- How many hands all but the host shake, sorted. -/
def impl_told.f (k : Nat) (a0_0 : Int) (l0_1 : List (S91)) : Option (List Int) := (impl_Party_table.f k a0_0 l0_1).bind fun t => (impl_table_numbers.f k t).bind fun q => if 1 ≤ q.length then (if q.length < 17592186044416 then some ((q.drop 1).mergeSort fun x y => decide (x ≤ y)) else none) else none
theorem impl_told.mono : ∀ a0 a1 k, LeO (impl_told.f k a0 a1) (impl_told.f (k + 1) a0 a1) := by
 intro a0 a1 k
 unfold impl_told.f
 exact LeO.bind (impl_Party_table.mono _ _ _) (fun _ => LeO.bind (impl_table_numbers.mono _ _) (fun _ => LeO.refl _))
set_option maxHeartbeats 8000000 in
set_option maxRecDepth 100000 in
theorem impl_told.calls (k : Nat) (a0_0 : Int) (A0_1 : Option Addr) (c0_1 : Nat) (l0_1 : List (S91)) (r : List Int) (w : World) (hr0_1 : Kd.C k91 w A0_1 l0_1.length l0_1) (hc0_1 : l0_1.length ≤ c0_1) (h : impl_told.f k a0_0 l0_1 = some r) :
  Calls Try.prog 74 #[.agg #[.int .i64 a0_0, .slice A0_1 l0_1.length c0_1]] w fun e w' => ∃ v0_ : Value, e = .returned (v0_) ∧ Kd.R (Kd.int .i64) 3 w' w.heap.size (fun _ => True) v0_ r ∧ Below w.heap.size w w' := by
 have hu := Try.underlying24
 have HR0 := Aside0.mk hr0_1
 clear hr0_1
 unfold impl_told.f at h
 obtain ⟨t, ht, h⟩ := Option.bind_eq_some_iff.1 h
 obtain ⟨q, hq, h⟩ := Option.bind_eq_some_iff.1 h
 by_cases h1 : 1 ≤ q.length
 ·rw [if_pos h1] at h
  by_cases h2 : q.length < 17592186044416
  ·rw [if_pos h2] at h
   obtain rfl := Option.some.inj h
   have A1 := Aside0.mk ht
   have A2 := Aside0.mk hq
   clear h ht hq
   have hyb : (q.drop (1 : Int).toNat).length * 8 ≤ 140737488355328 := by rw [List.length_drop]; omega
   have hyl : (q.drop (1 : Int).toNat).length = q.length - (1 : Int).toNat := List.length_drop
   have H1 := Aside0.mk h1
   clear h1 h2
   show Calls Try.prog 74 _ w fun e w' => ∃ v0_ : Value, e = .returned (v0_) ∧ Kd.R (Kd.int .i64) 3 w' w.heap.size (fun _ => True) v0_ ((q.drop (1 : Int).toNat).mergeSort fun x y => decide (x ≤ y)) ∧ Below w.heap.size w w'
   obtain ⟨y, Ny⟩ : ∃ y, y = q.drop (1 : Int).toNat := ⟨_, rfl⟩
   rw [← Ny] at hyb hyl ⊢
   replace Ny := Aside0.mk Ny
   replace hyl := Aside0.mk hyl
   have HS : Aside0 (∀ (Bs : Nat) (A : Option Addr) (c : Nat) (W : World), Kd.C (Kd.int .i64) W A y.length y → W.cell? ⟨Bs, 0, none⟩ = some (.slice A y.length c) →
    Calls Try.prog 110 #[.func (.func 134) #[] #[.pointer (some ⟨Bs, 0, none⟩)]] W fun e W' => ∃ v, e = .returned v ∧ Kd.R (Kd.int .i64) 3 W' W.heap.size (fun _ => True) v (y.mergeSort fun x y => decide (x ≤ y)) ∧ Below W.heap.size W W') :=
    ⟨fun Bs A c W hr hc => sorted.calls Bs A c y hyb W hr hc⟩
   clear hyb
   generalize (y.mergeSort fun x y => decide (x ≤ y)) = z at HS ⊢
   go_enter Try.func74, Try.ntmps74
   go_wp2_with (first | ((with_reducible refine gate_dst (N := 1) rfl ?_); refine box_event ?hg (N := 1) ?hd (cs := #[.int .i64 a0_0, .slice A0_1 l0_1.length c0_1]) (t := 24) ?hr ?_; (case hd => rfl); (case hg => rfl); (case hr => first | (go_simp; done) | (go_simp; rfl)); intro gb hg w5 hbox hb; have HB := Aside0.mk (below_step (Below.refl w.heap.size w) hb); have hz0 : w5.cell? ⟨gb, 0, none⟩ = some (.int .i64 a0_0) := (blk_cell hbox 0).trans rfl; have hz1 : w5.cell? ⟨gb, 1, none⟩ = some (.slice A0_1 l0_1.length c0_1) := (blk_cell hbox 1).trans rfl; clear hg hb hbox) | (go_at_call 112; refine (impl_Party_table.calls k a0_0 A0_1 c0_1 l0_1 t _ ?k1 hc0_1 A1.out).mono ?_; (case k1 => repeat (first | exact (Kd.C_below HR0.out HB.out) | (with_reducible refine Kd.C_alloc ?_ _) | (with_reducible refine Kd.C_drewN ?_ _) | (with_reducible refine Kd.C_drew ?_))); rintro e w6 ⟨v6, rfl, ho, hb⟩; have HB6 := Aside0.mk (below_step (by repeat (first | (with_reducible first | exact HB.out | apply below_alloc | apply pw_below_drewN | apply below_drew1) | exact HB.out)) hb : Below w.heap.size w w6); obtain ⟨A6, c6, e6, hc6, hC6⟩ := Kd.R_reads ho; subst e6; replace hC6 := Aside0.mk hC6; clear ho hb) | (go_at_call 113; refine (impl_table_numbers.calls k A6 c6 t q _ ?k1 hc6 A2.out).mono ?_; (case k1 => repeat (first | exact hC6.out | (with_reducible refine Kd.C_alloc ?_ _) | (with_reducible refine Kd.C_drewN ?_ _) | (with_reducible refine Kd.C_drew ?_))); rintro e w7 ⟨v7, rfl, ho, hb⟩; have HB7 := Aside0.mk (below_step (by repeat (first | (with_reducible first | exact HB6.out | apply below_alloc | apply pw_below_drewN | apply below_drew1) | exact HB6.out)) hb : Below w.heap.size w w7); obtain ⟨A7, c7, e7, hc7, hC7⟩ := Kd.R_reads ho; subst e7; clear ho hb; obtain ⟨i0, hi0, _, hsz0, _⟩ := info_parts sorted_info; have hcut := cut_from (P := Try.prog) 39 3 .i64 Try.underlying39 hi0 1 hsz0 A7 q.length c7 1 (by omega) (by have := H1.out; omega); have hr7 := Kd.C_drop (m := (1 : Int).toNat) (c := c7) hC7 H1.out hc7; obtain ⟨A8, hA8⟩ : ∃ A1, A1 = (if c7 = (1 : Int).toNat then A7 else (A7 : Option Addr).map (·.add ((1 : Int).toNat * 1))) := ⟨_, rfl⟩; obtain ⟨c8, hc8⟩ : ∃ c1, c1 = c7 - (1 : Int).toNat := ⟨_, rfl⟩; rw [← Ny.out] at hr7; replace hr7 : Kd.C (Kd.int .i64) _ A8 y.length y := (by rw [hA8]; exact hr7); rw [← hyl.out, ← hA8, ← hc8] at hcut; have HR8 := Aside0.mk hr7; clear hr7 hC7 hA8 hc8 hi0 hsz0) | (go_at_call 111; refine (slices_Values.calls _ _ _ _).mono ?_; rintro e w' ⟨rfl, rfl⟩) | (go_at_call 110; refine (HS.out _ A8 c8 _ ?k1 ?k2).mono ?_; (case k1 => repeat (first | exact HR8.out | (with_reducible refine Kd.C_alloc ?_ _) | (with_reducible refine Kd.C_drewN ?_ _) | (with_reducible refine Kd.C_drew ?_))); (case k2 => simp); rintro e w9 ⟨v9, rfl, ho, hb⟩; have HO := Aside0.mk (Kd.R_lower ho (below_size (w := w) (by repeat (first | (with_reducible first | exact HB7.out | apply below_alloc | apply pw_below_drewN | apply below_drew1) | exact HB7.out)))); have HB9 := Aside0.mk (below_step (by repeat (first | (with_reducible first | exact HB7.out | apply below_alloc | apply pw_below_drewN | apply below_drew1) | exact HB7.out)) hb : Below w.heap.size w w9); clear ho hb; obtain ⟨A9, c9, e9⟩ := Kd.R_slice HO.out; subst e9))
   go_ret
   exact ⟨_, rfl, by (with_reducible repeat (first | apply Kd.R_alloc | apply Kd.R_drewN | apply Kd.R_drew)); exact HO.out, by repeat (first | (with_reducible first | exact HB9.out | apply below_alloc | apply pw_below_drewN | apply below_drew1) | exact HB9.out)⟩
  ·rw [if_neg h2] at h; cases h
 ·rw [if_neg h1] at h; cases h

end Go.Proofs.Ytlacnnnmeolomaa.Q
