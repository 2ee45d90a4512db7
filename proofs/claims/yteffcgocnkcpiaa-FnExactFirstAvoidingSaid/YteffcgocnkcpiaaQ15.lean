import Derived.Test.YteffcgocnkcpiaaQ0
import Derived.Test.YteffcgocnkcpiaaQ9
import Derived.Test.YteffcgocnkcpiaaQ10
namespace Go.Proofs.Yteffcgocnkcpiaa.Q
open Go.RowKit Go.Proofs.YteffcgocnkcpiaaW.PrintWords Go.Proofs.YteffcgocnkcpiaaW.PrintLast Go.Proofs.YteffcgocnkcpiaaW.PrintMore
attribute [local go_sem] max2_int min2_int max_two min_two max_three min_three max_four min_four   -- for this text's walks alone
set_option linter.unusedVariables false
set_option linter.unusedSimpArgs false

/-! ### impl_place: function 27 -/
def impl_place.f (a0 : Int) (a1 : Int) (a2 : Int) : Option (Int) := some (wrap64 ((wrap64 ((wrap64 ((wrap64 (Int.tdiv (wrap64 ((mn a1 a2) * (wrap64 ((wrap64 ((wrap64 (2 * a0)) - (mn a1 a2))) - 1)))) 2)) + (mx a1 a2))) - (mn a1 a2))) - 1))
set_option maxHeartbeats 8000000 in
set_option maxRecDepth 100000 in
theorem impl_place.calls (a0 : Int) (a1 : Int) (a2 : Int) (r : Int) (w : World) (h : impl_place.f a0 a1 a2 = some r) :
  Calls Try.prog 27 #[.int .i64 a0, .int .i64 a1, .int .i64 a2] w fun e w' => e = .returned (.int .i64 r) ∧ Below w.heap.size w w' := by
 have HB := Aside0.mk (Below.refl w.heap.size w)
 have H : (some (wrap64 ((wrap64 ((wrap64 ((wrap64 (Int.tdiv (wrap64 ((mn a1 a2) * (wrap64 ((wrap64 ((wrap64 (2 * a0)) - (mn a1 a2))) - 1)))) 2)) + (mx a1 a2))) - (mn a1 a2))) - 1))) = some r := h
 clear h
 obtain ⟨ji4, hji4⟩ : ∃ j_ : Int, (mn a1 a2) = j_ := ⟨_, rfl⟩
 replace H : (some (wrap64 ((wrap64 ((wrap64 ((wrap64 (Int.tdiv (wrap64 ((ji4) * (wrap64 ((wrap64 ((wrap64 (2 * a0)) - (ji4))) - 1)))) 2)) + (mx a1 a2))) - (ji4))) - 1))) = some r := by first | (rw [hji4] at H; exact H) | (simp only [hji4] at H ⊢; exact H)
 have hji4_ : (if a2 < a1 then a2 else a1) = ji4 := hji4
 obtain ⟨ji5, hji5⟩ : ∃ j_ : Int, (mx a1 a2) = j_ := ⟨_, rfl⟩
 replace H : (some (wrap64 ((wrap64 ((wrap64 ((wrap64 (Int.tdiv (wrap64 ((ji4) * (wrap64 ((wrap64 ((wrap64 (2 * a0)) - (ji4))) - 1)))) 2)) + (ji5))) - (ji4))) - 1))) = some r := by first | (rw [hji5] at H; exact H) | (simp only [hji5] at H ⊢; exact H)
 have hji5_ : (if a1 < a2 then a2 else a1) = ji5 := hji5
 obtain rfl := Option.some.inj H
 go_enter Try.func27, Try.ntmps27
 go_wp2
 go_ret
 exact ⟨by first | rfl | (simp [errW_none, errW_some] <;> rfl) | (simp only [← hji4, ← hji5]; first | rfl | (simp [errW_none, errW_some] <;> rfl)) | (simp [*, errW_none, errW_some] <;> rfl), by repeat (first | (with_reducible first | exact HB.out | apply below_alloc | apply pw_below_drewN | apply below_drew1) | exact HB.out)⟩

end Go.Proofs.Yteffcgocnkcpiaa.Q
namespace Go.Proofs.Yteffcgocnkcpiaa.Q
open Go.RowKit Go.Proofs.YteffcgocnkcpiaaW.PrintWords Go.Proofs.YteffcgocnkcpiaaW.PrintLast Go.Proofs.YteffcgocnkcpiaaW.PrintMore
attribute [local go_sem] max2_int min2_int max_two min_two max_three min_three max_four min_four   -- for this text's walks alone
set_option linter.unusedVariables false
set_option linter.unusedSimpArgs false

/-! ### impl_Painting_of: function 26 -/
def impl_Painting_of.f (a0_0 : Int) (a0_1 : Int) (l0_2 : List Int) (a1 : Int) (a2 : Int) : Option (Int) := (impl_place.f a0_0 a1 a2).bind fun t133 => (if 0 ≤ t133 then (if t133 < (l0_2.length : Int) then (some (rd l0_2 t133)) else (none)) else (none))
def impl_Painting_of.T1 : Bool × List (List Nat × List Nat) := (true, [([], []), ([0], [0]), ([], []), ([2], [2]), ([], []), ([], []), ([3, 4, 5], [3, 4, 5]), ([1, 6], [1, 6]), ([7], [7]), ([8, 6, 0, 1, 2, 3, 4, 5, 6, 7, 8], [8])])
def impl_Painting_of.B1 : List Nat := [0, 1, 0, 4, 0, 0, 60, 127, 255, 511]
theorem impl_Painting_of.tab1 : rtab .any (opsOf Try.f26 1) = impl_Painting_of.T1 := by kernel_rfl
theorem impl_Painting_of.bits1 : waitsOk impl_Painting_of.T1.2 impl_Painting_of.B1 = true := by kernel_rfl
set_option maxHeartbeats 8000000 in
set_option maxRecDepth 100000 in
theorem impl_Painting_of.calls (a0_0 : Int) (a0_1 : Int) (A0_2 : Option Addr) (c0_2 : Nat) (l0_2 : List Int) (a1 : Int) (a2 : Int) (r : Int) (w : World) (hr0_2 : Kd.C (Kd.int .i64) w A0_2 l0_2.length l0_2) (hc0_2 : l0_2.length ≤ c0_2) (h : impl_Painting_of.f a0_0 a0_1 l0_2 a1 a2 = some r) :
  Calls Try.prog 26 #[.agg #[.int .i64 a0_0, .int .i64 a0_1, .slice A0_2 l0_2.length c0_2], .int .i64 a1, .int .i64 a2] w fun e w' => e = .returned (.int .i64 r) ∧ Below w.heap.size w w' := by
 have hu27 := Try.underlying27
 have HR0_2 := Aside0.mk hr0_2
 have HC0_2 := Aside0.mk hc0_2
 clear hr0_2 hc0_2
 have HB := Aside0.mk (Below.refl w.heap.size w)
 have H : ((impl_place.f a0_0 a1 a2).bind fun t133 => (if 0 ≤ t133 then (if t133 < (l0_2.length : Int) then (some (rd l0_2 t133)) else (none)) else (none))) = some r := h
 clear h
 replace H := Option.bind_eq_some_iff.mp H
 obtain ⟨t133, A40, H⟩ := H
 replace H : (if 0 ≤ t133 then (if t133 < (l0_2.length : Int) then (some (rd l0_2 t133)) else (none)) else (none)) = some r := H
 have A4 := Aside0.mk A40
 clear A40
 by_cases c5 : 0 ≤ t133
 ·rw [if_pos c5] at H
  have c5b0 : decide (0 ≤ t133) = true := decide_eq_true c5
  clear c5
  by_cases c6 : t133 < (l0_2.length : Int)
  ·rw [if_pos c6] at H
   have c6b0 : decide (t133 < (l0_2.length : Int)) = true := decide_eq_true c6
   clear c6
   obtain rfl := Option.some.inj H
   go_enter Try.func26, Try.ntmps26
   try go_wp2_with (first | ((with_reducible refine gate_dst (N := 3) rfl ?_); refine box_event ?hg (N := 3) ?hd (cs := #[.int .i64 a0_0, .int .i64 a0_1, .slice A0_2 l0_2.length c0_2]) (t := 27) ?hr ?_; (case hd => rfl); (case hg => rfl); (case hr => first | (go_simp; done) | (go_simp; rfl)); intro gb132 hg w7 hbox hb; have n0_ := Aside0.mk (below_step (by repeat (first | (with_reducible first | exact HB.out | apply below_alloc | apply pw_below_drewN | apply below_drew1) | exact HB.out)) hb); have n1_ := Aside0.mk (hbox); have n2_ := Aside0.mk ((by rw [hg]; exact (below_size (by repeat (first | (with_reducible first | exact HB.out | apply below_alloc | apply pw_below_drewN | apply below_drew1) | exact HB.out))) : w.heap.size ≤ gb132)); have n3_ := n2_; clear HB; have HB := n0_; have BK132 := n1_; have GW132 := n2_; have GE132 := n3_; clear n0_ n1_ n2_ n3_; clear hb hbox hg))
   have n0_ := Aside0.mk (blk_drew BK132.out)
   have n1_ := Aside0.mk (below_drew1 HB.out)
   clear BK132
   clear HB
   have BK132 := n0_
   have HB := n1_
   clear n0_ n1_
   have p134 : 0 ≤ (t133 : Int) := of_decide_eq_true (by first | (with_reducible assumption) | assumption)
   have q134 : t133 < (l0_2.length : Int) := of_decide_eq_true (by first | (with_reducible assumption) | assumption)
   obtain ⟨ad134, e134, hx134_0⟩ := Kd.at_int HR0_2.out t133 p134 q134
   have hw134_0 := hx134_0
   cases e134
   (try (replace hx134_0 := (HB.out.cell (World.block_lt_of_cell? w _ hx134_0)).trans hx134_0))
   replace p134 := eq_true p134
   replace q134 := eq_true q134
   refine start_ (n := 10) (S := fun w' => w'.cell? ⟨gb132, 0, none⟩ = some (.int .i64 a0_0) ∧ w'.cell? ⟨gb132, 1, none⟩ = some (.int .i64 a0_1) ∧ w'.cell? ⟨gb132, 2, none⟩ = some (.slice (some ad134) l0_2.length c0_2) ∧ w'.cell? (ad134.add (t133).toNat) = some (.int .i64 (rd l0_2 t133))) (ds := []) #[false, false, false, false, false, false, false, false, false, false] (by kernel_rfl) rfl rfl ⟨(blk_cell BK132.out 0).trans rfl, (blk_cell BK132.out 1).trans rfl, (blk_cell BK132.out 2).trans rfl, ((HB.out.cell (World.block_lt_of_cell? w _ hw134_0)).trans hw134_0)⟩ (fun hHeld => ?_); refine with_tabW impl_Painting_of.tab1 impl_Painting_of.bits1 (fun HT_ HW_ => ?_)
   generalize w7.drew = w8 at BK132 HB hx134_0 hHeld ⊢
   refine pure_ (i := 0) (N := some 7) (v := ?_) (a' := ?_) #[true, false, false, false, false, false, false, false, false, false] rfl rfl (any_of HT_.out (by kernel_rfl)) (fun _ _ _ h => h) (Or.inl ⟨by rfl, ?_⟩) ?_ ?_
   rotate_left
   ·intro w'
    go_simp
    with_reducible rfl
   rotate_left
   ·simp only [Act.put, List.setIfInBounds_toArray, List.set_cons_zero, List.set_cons_succ, i64_w, i32_w]
    rfl
   refine pure_ (i := 2) (N := some 9) (v := ?_) (a' := ?_) #[true, false, true, false, false, false, false, false, false, false] rfl rfl (any_of HT_.out (by kernel_rfl)) (fun _ _ _ h => h) (Or.inl ⟨by rfl, ?_⟩) ?_ ?_
   rotate_left
   ·intro w'
    go_simp
    with_reducible rfl
   rotate_left
   ·simp only [Act.put, List.setIfInBounds_toArray, List.set_cons_zero, List.set_cons_succ, i64_w, i32_w]
    rfl
   refine pure_ (i := 4) (N := some 11) (v := ?_) (a' := ?_) #[true, false, true, false, true, false, false, false, false, false] rfl rfl (any_of HT_.out (by kernel_rfl)) (fun _ _ _ h => h) (Or.inl ⟨by rfl, ?_⟩) ?_ ?_
   rotate_left
   ·intro w'
    go_simp
    with_reducible rfl
   rotate_left
   ·simp only [Act.put, List.setIfInBounds_toArray, List.set_cons_zero, List.set_cons_succ, i64_w, i32_w]
    rfl
   refine pure_ (i := 5) (N := some 12) (v := ?_) (a' := ?_) #[true, false, true, false, true, true, false, false, false, false] rfl rfl (any_of HT_.out (by kernel_rfl)) (fun _ _ _ h => h) (Or.inl ⟨by rfl, ?_⟩) ?_ ?_
   rotate_left
   ·intro w'
    go_simp
    with_reducible rfl
   rotate_left
   ·simp only [Act.put, List.setIfInBounds_toArray, List.set_cons_zero, List.set_cons_succ, i64_w, i32_w]
    rfl
   refine take_ (i := 1) (N := some 8) (v := ?_) (a' := ?_) #[true, true, true, false, true, true, false, false, false, false] rfl rfl (take_ofW HT_.out HW_.out (by kernel_rfl)) (fun _ _ _ h => h) (Or.inl ⟨by rfl, ?_⟩) hHeld ?_ ?_
   rotate_left
   ·rintro w' ⟨s0, s1, s2, s3⟩
    go_simp
    with_reducible rfl
   rotate_left
   ·simp only [Act.put, List.setIfInBounds_toArray, List.set_cons_zero, List.set_cons_succ, i64_w, i32_w]
    rfl
   refine take_ (i := 3) (N := some 10) (v := ?_) (a' := ?_) #[true, true, true, true, true, true, false, false, false, false] rfl rfl (take_ofW HT_.out HW_.out (by kernel_rfl)) (fun _ _ _ h => h) (Or.inl ⟨by rfl, ?_⟩) hHeld ?_ ?_
   rotate_left
   ·rintro w' ⟨s0, s1, s2, s3⟩
    go_simp
    with_reducible rfl
   rotate_left
   ·simp only [Act.put, List.setIfInBounds_toArray, List.set_cons_zero, List.set_cons_succ, i64_w, i32_w]
    rfl
   refine one_ (i := 6) (N := some 13) #[true, true, true, true, true, true, true, false, false, false] rfl rfl (one_of HT_.out (by kernel_rfl)) (by decide) (fun K hK => ?_)
   refine goes_ Try.func27 (by kernel_rfl) rfl #[.int .i64 a0_0, .int .i64 a1, .int .i64 a2] (by rfl) rfl rfl (by (try simp only [List.map_toArray, List.map_cons, List.map_nil]); first | done | rfl | (simp only [List.length_drop, List.length_take]; rfl)) ?_
   with_reducible refine (impl_place.calls a0_0 a1 a2 t133 _ A4.out).mono ?_
   rintro e w9 ⟨rfl, hb⟩
   refine ⟨_, rfl, ?_⟩
   have n0_ := Aside0.mk (blk_below (g := gb132) (o := .cells #[.int .i64 a0_0, .int .i64 a0_1, .slice (some ad134) l0_2.length c0_2] 27 (0, 0)) (by (with_reducible repeat (first | refine blk_drewN ?_ _ | refine blk_drew ?_ | refine blk_alloc ?_ _)); exact BK132.out) hb)
   have n1_ := Aside0.mk (below_step (by repeat (first | (with_reducible first | exact HB.out | apply below_alloc | apply pw_below_drewN | apply below_drew1 | refine below_set ?_ GE132.out) | exact HB.out)) hb)
   clear BK132
   clear HB
   have BK132 := n0_
   have HB := n1_
   clear n0_ n1_
   (try clear hb)
   (try clear hb2)
   (try clear hk)
   (try clear hi)
   refine hK.out _ _ ⟨(blk_cell BK132.out 0).trans rfl, (blk_cell BK132.out 1).trans rfl, (blk_cell BK132.out 2).trans rfl, ((HB.out.cell (World.block_lt_of_cell? w _ hw134_0)).trans hw134_0)⟩ (fun hHeld => ?_)
   clear hK K
   refine norm_ (a' := ?_) ?_ ?_
   rotate_left
   ·show Act.put _ (some 13) _ = _
    simp only [Act.put, List.setIfInBounds_toArray, List.set_cons_zero, List.set_cons_succ, i64_w, i32_w]
    rfl
   refine pure_ (i := 7) (N := some 14) (v := ?_) (a' := ?_) #[true, true, true, true, true, true, true, true, false, false] rfl rfl (any_of HT_.out (by kernel_rfl)) (fun _ _ _ h => h) (Or.inl ⟨by rfl, ?_⟩) ?_ ?_
   rotate_left
   ·intro w'
    go_simp
    with_reducible rfl
   rotate_left
   ·simp only [Act.put, List.setIfInBounds_toArray, List.set_cons_zero, List.set_cons_succ, i64_w, i32_w]
    rfl
   refine take_ (i := 8) (N := some 15) (v := ?_) (a' := ?_) #[true, true, true, true, true, true, true, true, true, false] rfl rfl (take_ofW HT_.out HW_.out (by kernel_rfl)) (fun _ _ _ h => h) (Or.inl ⟨by rfl, ?_⟩) hHeld ?_ ?_
   rotate_left
   ·rintro w' ⟨s0, s1, s2, s3⟩
    go_simp
    with_reducible rfl
   rotate_left
   ·simp only [Act.put, List.setIfInBounds_toArray, List.set_cons_zero, List.set_cons_succ, i64_w, i32_w]
    rfl
   refine pure_ (i := 9) (N := some 6) (v := ?_) (a' := ?_) #[true, true, true, true, true, true, true, true, true, true] rfl rfl (any_of HT_.out (by kernel_rfl)) (fun _ _ _ h => h) (Or.inl ⟨by rfl, ?_⟩) ?_ ?_
   rotate_left
   ·intro w'
    go_simp
    with_reducible rfl
   rotate_left
   ·simp only [Act.put, List.setIfInBounds_toArray, List.set_cons_zero, List.set_cons_succ, i64_w, i32_w]
    rfl
   refine done_ (done_of HT_.out (by kernel_rfl)) ?_
   try go_wp2
   go_ret
   exact ⟨by first | rfl | (simp [errW_none, errW_some] <;> rfl) | (simp [*, errW_none, errW_some] <;> rfl), by repeat (first | (with_reducible first | exact HB.out | apply below_alloc | apply pw_below_drewN | apply below_drew1 | refine below_set ?_ GE132.out) | exact HB.out)⟩
  ·rw [if_neg c6] at H
   exact absurd H (by simp)
 ·rw [if_neg c5] at H
  exact absurd H (by simp)

end Go.Proofs.Yteffcgocnkcpiaa.Q
namespace Go.Proofs.Yteffcgocnkcpiaa.Q
open Go.RowKit Go.Proofs.YteffcgocnkcpiaaW.PrintWords Go.Proofs.YteffcgocnkcpiaaW.PrintLast Go.Proofs.YteffcgocnkcpiaaW.PrintMore
attribute [local go_sem] max2_int min2_int max_two min_two max_three min_three max_four min_four   -- for this text's walks alone
set_option linter.unusedVariables false
set_option linter.unusedSimpArgs false

/-! ### slices_Clone_int_int: function 25 (proved by hand) -/
/-- A slice's copy. -/
def slices_Clone_int_int.f (l0 : List Int) : Option (List Int) := if l0.length < 17592186044416 then some l0 else none
set_option maxHeartbeats 8000000 in
set_option maxRecDepth 100000 in
theorem slices_Clone_int_int.isnil (a : Option Addr) (n c : Nat) (W : World) : Sem.run Try.prog (binOp .eql 25 (.slice a n c) (.slice none 0 0)) W = Result.ok (.bool a.isNone) W := Lib.run_eql_slice_nil W _ _ a n c 0 0 Try.underlying25
set_option maxHeartbeats 8000000 in
set_option maxRecDepth 100000 in
theorem slices_Clone_int_int.calls (A0 : Option Addr) (c0 : Nat) (l0 : List Int) (r : List Int) (w : World) (hr0 : Kd.C (Kd.int .i64) w A0 l0.length l0) (hc0 : l0.length ≤ c0) (h : slices_Clone_int_int.f l0 = some r) :
  Calls Try.prog 25 #[.slice A0 l0.length c0] w fun e w' => ∃ v0_ : Value, e = .returned (v0_) ∧ Kd.R (Kd.int .i64) 3 w' w.heap.size (fun _ => True) v0_ r ∧ Below w.heap.size w w' := by
 have HR0 := Aside0.mk hr0
 have HC0 := Aside0.mk hc0
 clear hr0 hc0
 have HB := Aside0.mk (Below.refl w.heap.size w)
 have hnil := slices_Clone_int_int.isnil
 unfold slices_Clone_int_int.f at h
 by_cases c2 : l0.length < 17592186044416
 ·rw [if_pos c2] at h
  have LMc2 := Aside0.mk c2
  clear c2
  obtain rfl := Option.some.inj h
  clear h
  cases A0 with
  | none =>
   have hl : l0 = [] := by
    have := HR0.out
    rcases Nat.eq_zero_or_pos l0.length with h0 | h0
    ·exact List.eq_nil_of_length_eq_zero h0
    ·obtain ⟨ad, h, _⟩ := this.2.2 h0
     cases h
   subst hl
   go_enter Try.func25, Try.ntmps25
   go_wp2
   go_ret
   exact ⟨_, rfl, Kd.R_nil _ _ _ _ _, Below.refl _ _⟩
  | some ad0 =>
   go_enter Try.func25, Try.ntmps25
   go_wp2_with (first | ((with_reducible refine gate_dst (N := 5) rfl ?_); refine Kd.R_lit (Kd.int .i64) _ 3 ?hg (N := 5) ?hd (xs := ([] : List Int)) (inner := []) (ok := fun _ => True) (okp := fun _ => True) ?hr ?hp (fun _ hk => hk) trivial (Below.refl _ _) (Nat.le_refl _) (by simp) ?_; (case hd => rfl); (case hg => rfl); (case hr => first | (go_simp; done) | (go_simp; rfl)); (case hp => exact (Reps.none _ _)); intro v302 w3 ho4 hb hg_ hnew_; clear hg_ hnew_; have n0_ := Aside0.mk (Kd.R_lower ho4 (below_size (by repeat (first | (with_reducible first | exact HB.out | apply below_alloc | apply pw_below_drewN | apply below_drew1) | exact HB.out)))); have n1_ := Aside0.mk (below_step (by repeat (first | (with_reducible first | exact HB.out | apply below_alloc | apply pw_below_drewN | apply below_drew1) | exact HB.out)) hb); clear HB; have HO303 := n0_; have HB := n1_; clear n0_ n1_; clear hb ho4) | ((with_reducible refine gate_builtin (b := .append) (xs := #[.tmp 5, .tmp 6]) rfl ?_); at_builtin; refine Kd.R_append_rows (Kd.int .i64) (w0 := w) w.heap.size rfl (.tmp 5) (.tmp 6) 25 3 (.int .i64 0) 8 rfl Try.underlying25 info3 rfl (by decide) (by omega) v302 ([] : List Int) l0 _ _ _ (fun _ => True) (fun _ => False) rfl rfl ?aO ?aR (fun _ _ h => h) (fun _ h => h.elim) ?aF ?aB ?aS ?aL ?_; (case aR => repeat (first | exact (Kd.C_below HR0.out HB.out) | (with_reducible refine Kd.C_alloc ?_ _) | (with_reducible refine Kd.C_drewN ?_ _) | (with_reducible refine Kd.C_drew ?_))); (case aB => exact (by repeat (first | (with_reducible first | exact HB.out | apply below_alloc | apply pw_below_drewN | apply below_drew1) | exact HB.out))); (case aF => exact (fun _ _ => trivial)); (case aO => exact (by (with_reducible repeat (first | apply Kd.R_alloc | apply Kd.R_drewN | apply Kd.R_drew)); exact HO303.out)); (case aS => exact (below_size (by repeat (first | (with_reducible first | exact HB.out | apply below_alloc | apply pw_below_drewN | apply below_drew1) | exact HB.out)))); (case aL => have := LMc2.out; simp only [List.length_nil]; omega); intro v305 w5 ho hb hg hat; rw [List.nil_append] at ho; have n0_ := Aside0.mk (hb); have n1_ := Aside0.mk (ho); clear HB; clear HO303; have HB := n0_; have HO306 := n1_; clear n0_ n1_; clear ho hb hg hat))
   go_ret
   exact ⟨_, by first | rfl | (simp [errW_none, errW_some] <;> rfl), by (with_reducible repeat (first | apply Kd.R_alloc | apply Kd.R_drewN | apply Kd.R_drew)); exact HO306.out, by repeat (first | (with_reducible first | exact HB.out | apply below_alloc | apply pw_below_drewN | apply below_drew1) | exact HB.out)⟩
 ·rw [if_neg c2] at h
  exact absurd h (by simp)

end Go.Proofs.Yteffcgocnkcpiaa.Q
namespace Go.Proofs.Yteffcgocnkcpiaa.Q
open Go.RowKit Go.Proofs.YteffcgocnkcpiaaW.PrintWords Go.Proofs.YteffcgocnkcpiaaW.PrintLast Go.Proofs.YteffcgocnkcpiaaW.PrintMore
attribute [local go_sem] max2_int min2_int max_two min_two max_three min_three max_four min_four   -- for this text's walks alone
set_option linter.unusedVariables false
set_option linter.unusedSimpArgs false

/-! ### impl_choose: function 23 -/
def impl_choose.l0 : Nat → Int → Int → Int → Int → Option (Int)
 | 0, _, _, _, _ => none
 | k + 1, x0, x5, x11, x12 => if x12 < x11 then (if (wrap64 (x12 + 1)) = 0 then (none) else (impl_choose.l0 k x0 (wrap64 (Int.tdiv (wrap64 (x5 * (wrap64 (x0 - x12)))) (wrap64 (x12 + 1)))) x11 (wrap64 (x12 + 1)))) else (some x5)
def impl_choose.f (k : Nat) (a0 : Int) (a1 : Int) : Option (Int) := (impl_within.f a1 0 a0).bind fun t131 => (if t131 = true then (impl_choose.l0 k a0 1 a1 0) else (some 0))
theorem impl_choose.mono_l : ∀ k, (∀ y0 y1 y2 y3, LeO (impl_choose.l0 k y0 y1 y2 y3) (impl_choose.l0 (k + 1) y0 y1 y2 y3))
 | 0 => fun _ _ _ _ r h => by simp [impl_choose.l0] at h
 | k + 1 => by
  have ih0 := impl_choose.mono_l k
  ·intro y0 y1 y2 y3
   unfold impl_choose.l0
   repeat' first
   | (with_reducible exact ih0 _ _ _ _)
   | (with_reducible exact LeO.refl _)
   | (with_reducible exact LeO.none _)
   | (with_reducible refine LeO.ite ?_ ?_)
   | (with_reducible refine LeO.bind ?_ (fun _ => ?_))
   | exact ih0 _ _ _ _
   | exact LeO.none _
   | refine LeO.ite ?_ ?_
   | refine LeO.bind ?_ (fun _ => ?_)
theorem impl_choose.mono : ∀ a0 a1 k, LeO (impl_choose.f k a0 a1) (impl_choose.f (k + 1) a0 a1) := by
 intro a0 a1 k
 have ih0 := impl_choose.mono_l k
 unfold impl_choose.f
 repeat' first
   | (with_reducible exact ih0 _ _ _ _)
   | (with_reducible exact LeO.refl _)
   | (with_reducible exact LeO.none _)
   | (with_reducible refine LeO.ite ?_ ?_)
   | (with_reducible refine LeO.bind ?_ (fun _ => ?_))
   | exact ih0 _ _ _ _
   | exact LeO.none _
   | refine LeO.ite ?_ ?_
   | refine LeO.bind ?_ (fun _ => ?_)
set_option maxHeartbeats 8000000 in
set_option maxRecDepth 100000 in
theorem impl_choose.calls (k : Nat) (a0 : Int) (a1 : Int) (r : Int) (w : World) (h : impl_choose.f k a0 a1 = some r) :
  Calls Try.prog 23 #[.int .i64 a0, .int .i64 a1] w fun e w' => e = .returned (.int .i64 r) ∧ Drawn0 w w' := by
 have H : ((impl_within.f a1 0 a0).bind fun t131 => (if t131 = true then (impl_choose.l0 k a0 1 a1 0) else (some 0))) = some r := h
 clear h
 replace H := Option.bind_eq_some_iff.mp H
 obtain ⟨t131, A30, H⟩ := H
 replace H : (if t131 = true then (impl_choose.l0 k a0 1 a1 0) else (some 0)) = some r := H
 have A3 := Aside0.mk A30
 clear A30
 by_cases c4 : t131 = true
 ·subst c4
  have H1 : (impl_choose.l0 k a0 1 a1 0) = some r := by rw [if_pos rfl] at H; exact H
  clear H
  have H := H1
  clear H1
  have H' := Aside0.mk H
  clear H
  go_enter Try.func23, Try.ntmps23
  go_wp2_with (first | ((with_reducible refine gate_callee (f := 22) rfl ?_); refine goesL_ (some 9) rfl rfl Try.func22 (by kernel_rfl) rfl #[.int .i64 a1, .int .i64 0, .int .i64 a0] rfl (by (try simp only [List.map_toArray, List.map_cons, List.map_nil]); first | done | rfl | (simp only [List.length_drop, List.length_take]; rfl)) ?_; (with_reducible refine (impl_within.calls a1 0 a0 true _ A3.out).mono ?_); rintro e w' ⟨rfl, ⟨nd, rfl⟩⟩; refine ⟨_, rfl, ?_⟩))
  go_loopg [5, 12] k (fun kq v5 v12 w' => ∃ (x5_1 : Int) (x12_1 : Int), v5 = .int .i64 x5_1 ∧ v12 = .int .i64 x12_1 ∧ Aside0 (impl_choose.l0 kq a0 x5_1 a1 x12_1 = some r) ∧ Aside0 (kq ≤ k) ∧ Drawn0 w w')
  case atStart => exact ⟨(1), (0), (by first | rfl | (simp; done) | (simp [*]; done)), (by first | rfl | (simp; done) | (simp [*]; done)), H', ⟨Nat.le_refl _⟩, by repeat (first | exact Drawn0.refl _ | apply Drawn0.step)⟩
  case round =>
   clear H'
   try clear c2
   try clear p2
   try clear c4
   obtain ⟨x5_1, x12_1, rfl, rfl, HA, HK1, ⟨m1, rfl⟩⟩ := hrel
   cases gk with
   | zero => exact absurd HA.out (by simp [impl_choose.l0])
   | succ k1 =>
    have H := HA.out
    clear HA
    simp only [impl_choose.l0] at H
    by_cases c5 : x12_1 < a1
    ·rw [if_pos c5] at H
     have c5b0 : decide (x12_1 < a1) = true := decide_eq_true c5
     clear c5
     by_cases c6 : (wrap64 (x12_1 + 1)) = 0
     ·rw [if_pos c6] at H
      exact absurd H (by simp)
     ·rw [if_neg c6] at H
      have c6b0 : ((wrap64 (x12_1 + 1)) == 0) = false := beq_eq_false_iff_ne.mpr c6
      have c6b1 : ((wrap64 (x12_1 + 1)) != 0) = true := bne_iff_ne.mpr c6
      have H' := Aside0.mk H
      clear H
      go_wp2
      go_roundg k1
      case measure => have := HK1.out; omega
      case rel => exact ⟨(wrap64 (Int.tdiv (wrap64 (x5_1 * (wrap64 (a0 - x12_1)))) (wrap64 (x12_1 + 1)))), (wrap64 (x12_1 + 1)), (by first | rfl | (simp; done) | (simp [*]; done)), (by first | rfl | (simp; done) | (simp [*]; done)), H', ⟨by have := HK1.out; omega⟩, by repeat (first | exact Drawn0.refl _ | apply Drawn0.step)⟩
    ·rw [if_neg c5] at H
     have c5b0 : decide (x12_1 < a1) = false := decide_eq_false c5
     clear c5
     obtain rfl := Option.some.inj H
     go_wp2
     go_ret
     exact ⟨by first | rfl | (simp; done) | (simp [*]; done), by repeat (first | exact Drawn0.refl _ | apply Drawn0.step)⟩
 ·replace c4 := Bool.eq_false_iff.mpr c4
  subst c4
  have H1 : (some 0) = some r := by rw [if_neg (show ¬ (false = true) by decide)] at H; exact H
  clear H
  have H := H1
  clear H1
  obtain rfl := Option.some.inj H
  go_enter Try.func23, Try.ntmps23
  go_wp2_with (first | ((with_reducible refine gate_callee (f := 22) rfl ?_); refine goesL_ (some 9) rfl rfl Try.func22 (by kernel_rfl) rfl #[.int .i64 a1, .int .i64 0, .int .i64 a0] rfl (by (try simp only [List.map_toArray, List.map_cons, List.map_nil]); first | done | rfl | (simp only [List.length_drop, List.length_take]; rfl)) ?_; (with_reducible refine (impl_within.calls a1 0 a0 false _ A3.out).mono ?_); rintro e w' ⟨rfl, ⟨nd, rfl⟩⟩; refine ⟨_, rfl, ?_⟩))
  go_ret
  exact ⟨by first | rfl | (simp; done) | (simp [*]; done), by repeat (first | exact Drawn0.refl _ | apply Drawn0.step)⟩

end Go.Proofs.Yteffcgocnkcpiaa.Q
namespace Go.Proofs.Yteffcgocnkcpiaa.Q
open Go.RowKit Go.Proofs.YteffcgocnkcpiaaW.PrintWords Go.Proofs.YteffcgocnkcpiaaW.PrintLast Go.Proofs.YteffcgocnkcpiaaW.PrintMore
attribute [local go_sem] max2_int min2_int max_two min_two max_three min_three max_four min_four   -- for this text's walks alone
set_option linter.unusedVariables false
set_option linter.unusedSimpArgs false

/-! ### impl_CountAvoiding: function 6 (proved by hand) -/
/-- Do two pairs with a person before, of those to whom this pair belongs, have the colour? -/
def impl_avoiding.l1 : Nat → Int → Int → List Int → Int → Int → Int → Int → Bool → Option Bool
 | 0, _, _, _, _, _, _, _, _ => none
 | k + 1, n, m, X, a, b, col, c, cl => if c < a then (if cl = true then impl_avoiding.l1 k n m X a b col (wrap64 (c + 1)) true else ((impl_Painting_of.f n m X c a).bind fun u => if u = col then ((impl_Painting_of.f n m X c b).bind fun v => impl_avoiding.l1 k n m X a b col (wrap64 (c + 1)) (v == col)) else impl_avoiding.l1 k n m X a b col (wrap64 (c + 1)) false)) else some cl
mutual
/-- The colours of the pairs from one on; each whole painting is handed to a function with a state. -/
def impl_avoiding.p {σ : Type} (e : σ → List Int → σ × Bool) : Nat → Int → Int → List Int → Int → Int → σ → Option (Bool × List Int × σ)
 | 0, _, _, _, _, _, _ => none
 | k + 1, n, m, X, a, b, s => if n ≤ b then impl_avoiding.h e k n m X (wrap64 (a + 1)) (wrap64 (a + 2)) s else impl_avoiding.h e k n m X a b s
def impl_avoiding.h {σ : Type} (e : σ → List Int → σ × Bool) : Nat → Int → Int → List Int → Int → Int → σ → Option (Bool × List Int × σ)
 | 0, _, _, _, _, _, _ => none
 | k + 1, n, m, X, a, b, s => if wrap64 (n - 1) ≤ a then ((slices_Clone_int_int.f X).bind fun o => some ((e s o).2, X, (e s o).1)) else impl_avoiding.l0 e k n m X a b s 0
def impl_avoiding.l0 {σ : Type} (e : σ → List Int → σ × Bool) : Nat → Int → Int → List Int → Int → Int → σ → Int → Option (Bool × List Int × σ)
 | 0, _, _, _, _, _, _, _ => none
 | k + 1, n, m, X, a, b, s, col => if col < m then ((impl_avoiding.l1 k n m X a b col 0 false).bind fun cl => if cl = true then impl_avoiding.l0 e k n m X a b s (wrap64 (col + 1)) else ((impl_place.f n a b).bind fun p => if 0 ≤ p then (if p < (X.length : Int) then ((impl_avoiding.p e k n m (X.set p.toNat col) a (wrap64 (b + 1)) s).bind fun q => if q.1 = true then impl_avoiding.l0 e k n m q.2.1 a b q.2.2 (wrap64 (col + 1)) else some (false, q.2.1, q.2.2)) else none) else none)) else some (true, X, s)
end
theorem impl_avoiding.mono1 : ∀ k y0 y1 y2 y3 y4 y5 y6 y7, LeO (impl_avoiding.l1 k y0 y1 y2 y3 y4 y5 y6 y7) (impl_avoiding.l1 (k + 1) y0 y1 y2 y3 y4 y5 y6 y7)
 | 0 => fun _ _ _ _ _ _ _ _ r h => by simp [impl_avoiding.l1] at h
 | k + 1 => by
  intro y0 y1 y2 y3 y4 y5 y6 y7
  unfold impl_avoiding.l1
  exact LeO.ite (LeO.ite (impl_avoiding.mono1 k _ _ _ _ _ _ _ _) (LeO.bind (LeO.refl _) (fun _ => LeO.ite (LeO.bind (LeO.refl _) (fun _ => impl_avoiding.mono1 k _ _ _ _ _ _ _ _)) (impl_avoiding.mono1 k _ _ _ _ _ _ _ _)))) (LeO.refl _)
theorem impl_avoiding.mono_l {σ : Type} (e : σ → List Int → σ × Bool) : ∀ k, (∀ y0 y1 y2 y3 y4 y5, LeO (impl_avoiding.p e k y0 y1 y2 y3 y4 y5) (impl_avoiding.p e (k + 1) y0 y1 y2 y3 y4 y5)) ∧ (∀ y0 y1 y2 y3 y4 y5, LeO (impl_avoiding.h e k y0 y1 y2 y3 y4 y5) (impl_avoiding.h e (k + 1) y0 y1 y2 y3 y4 y5)) ∧ (∀ y0 y1 y2 y3 y4 y5 y6, LeO (impl_avoiding.l0 e k y0 y1 y2 y3 y4 y5 y6) (impl_avoiding.l0 e (k + 1) y0 y1 y2 y3 y4 y5 y6))
 | 0 => ⟨fun _ _ _ _ _ _ r h => by simp [impl_avoiding.p] at h, fun _ _ _ _ _ _ r h => by simp [impl_avoiding.h] at h, fun _ _ _ _ _ _ _ r h => by simp [impl_avoiding.l0] at h⟩
 | k + 1 => by
  obtain ⟨ih0, ih1, ih2⟩ := impl_avoiding.mono_l e k
  refine ⟨?_, ?_, ?_⟩
  ·intro y0 y1 y2 y3 y4 y5
   unfold impl_avoiding.p
   exact LeO.ite (ih1 _ _ _ _ _ _) (ih1 _ _ _ _ _ _)
  ·intro y0 y1 y2 y3 y4 y5
   unfold impl_avoiding.h
   exact LeO.ite (LeO.refl _) (ih2 _ _ _ _ _ _ _)
  ·intro y0 y1 y2 y3 y4 y5 y6
   unfold impl_avoiding.l0
   exact LeO.ite (LeO.bind (impl_avoiding.mono1 _ _ _ _ _ _ _ _ _) (fun _ => LeO.ite (ih2 _ _ _ _ _ _ _) (LeO.bind (LeO.refl _) (fun _ => LeO.ite (LeO.ite (LeO.bind (ih0 _ _ _ _ _ _) (fun _ => LeO.ite (ih2 _ _ _ _ _ _ _) (LeO.refl _))) (LeO.refl _)) (LeO.refl _))))) (LeO.refl _)
/-- What holds of the world while paintings are looked for. -/
structure impl_avoiding.Inv {σ : Type} (St : σ → World → Prop) (gn gl ge gx gp gr : Nat) (n m : Int) (AX : Option Addr) (N cx : Nat) (fv : Value) (w0 : World) (W : World) (X : List Int) (s : σ) : Prop where
 bn : W.heap[gn]? = some (.cells #[.int .i64 n] 3 (0, 0))
 bl : W.heap[gl]? = some (.cells #[.int .i64 m] 3 (0, 0))
 be : W.heap[ge]? = some (.cells #[fv] 36 (0, 0))
 bx : W.heap[gx]? = some (.cells #[.int .i64 n, .int .i64 m, .slice AX N cx] 27 (0, 0))
 bp : W.heap[gp]? = some (.cells #[.func (.func 24) #[] #[.pointer (some ⟨gn, 0, none⟩), .pointer (some ⟨ge, 0, none⟩), .pointer (some ⟨gx, 0, none⟩), .pointer (some ⟨gl, 0, none⟩), .pointer (some ⟨gp, 0, none⟩)]] 24 (0, 0))
 hx : Kd.R (Kd.int .i64) 3 W w0.heap.size (fun k_ => k_ = gr) (.slice AX N cx) X
 st : St s W
 hb : Below w0.heap.size w0 W
 lt : gr < W.heap.size
theorem impl_avoiding.Inv.kept {σ : Type} {St : σ → World → Prop} {gn gl ge gx gp gr : Nat} {n m : Int} {AX : Option Addr} {N cx : Nat} {fv : Value} {w0 W W' : World} {X X' : List Int} {s s' : σ} {S : Nat → Prop} (h : impl_avoiding.Inv St gn gl ge gx gp gr n m AX N cx fv w0 W X s) (hk : Kept W W' S) (hn : ¬ S gn ∧ ¬ S gl ∧ ¬ S ge ∧ ¬ S gx ∧ ¬ S gp) (hx : Kd.R (Kd.int .i64) 3 W' w0.heap.size (fun k_ => k_ = gr) (.slice AX N cx) X') (hs : St s' W') (hb : Below w0.heap.size w0 W') : impl_avoiding.Inv St gn gl ge gx gp gr n m AX N cx fv w0 W' X' s' :=
 ⟨blk_kept h.bn hk hn.1, blk_kept h.bl hk hn.2.1, blk_kept h.be hk hn.2.2.1, blk_kept h.bx hk hn.2.2.2.1, blk_kept h.bp hk hn.2.2.2.2, hx, hs, hb, Nat.lt_of_lt_of_le h.lt hk.1⟩
theorem impl_avoiding.Inv.below {σ : Type} {St : σ → World → Prop} {gn gl ge gx gp gr : Nat} {n m : Int} {AX : Option Addr} {N cx : Nat} {fv : Value} {w0 W W' : World} {X : List Int} {s : σ} (hik : ∀ s W W', St s W → Kept W W' (fun k_ => k_ = gr) → St s W') (h : impl_avoiding.Inv St gn gl ge gx gp gr n m AX N cx fv w0 W X s) (hb : Below W.heap.size W W') : impl_avoiding.Inv St gn gl ge gx gp gr n m AX N cx fv w0 W' X s :=
 h.kept (S := fun _ => False) (Kept.of_below hb _) ⟨id, id, id, id, id⟩ (Kd.R_below h.hx hb) (hik s W W' h.st (Kept.of_below hb _)) (below_step h.hb hb)
theorem impl_avoiding.ofN (a0 a1 : Int) (A : Option Addr) (N c : Nat) (l : List Int) (a b r : Int) (w : World) (hN : N = l.length) (hr : Kd.C (Kd.int .i64) w A l.length l) (hc : N ≤ c) (h : impl_Painting_of.f a0 a1 l a b = some r) :
  Calls Try.prog 26 #[.agg #[.int .i64 a0, .int .i64 a1, .slice A N c], .int .i64 a, .int .i64 b] w fun e w' => e = .returned (.int .i64 r) ∧ Below w.heap.size w w' := by
 subst hN
 exact impl_Painting_of.calls a0 a1 A c l a b r w hr hc h
theorem impl_avoiding.cloN (A : Option Addr) (N c : Nat) (l r : List Int) (w : World) (hN : N = l.length) (hr : Kd.C (Kd.int .i64) w A l.length l) (hc : N ≤ c) (h : slices_Clone_int_int.f l = some r) :
  Calls Try.prog 25 #[.slice A N c] w fun e w' => ∃ v0_ : Value, e = .returned (v0_) ∧ Kd.R (Kd.int .i64) 3 w' w.heap.size (fun _ => True) v0_ r ∧ Below w.heap.size w w' := by
 subst hN
 exact slices_Clone_int_int.calls A c l r w hr hc h
theorem impl_avoiding.goesV_ {P : Program} {Q : Exit → Act → World → Prop} {ops : Array Oper} {oi : Oper} {N : Option Tmp} {a : Act} {w : World} {K : Act → World → Prop} {f : FuncId} {fn : Func} {as_ : Array Operand} {ts : Array TypeId} {x : Operand} {first cap : Array Value} (hf : P.funcs[f]? = some fn) (hname : (fn.name == "runtime.NumGoroutine") = false) (hb : fn.body.isSome = true) (args : Array Value)
  (hw : Region.wanted oi (yielded ops a.tmps) = true) (hN : oi.dst = N) (hop : oi.op = .call { callee := .value x, args := as_, argTypes := ts }) (hx : a.eval x = .func (.func f) first cap) (hargs : first ++ as_.map a.eval ++ cap = args)
  (h : Calls P f args w fun e w' => ∃ v, e = .returned v ∧ K (a.put N v) w') : if Region.wanted oi (yielded ops a.tmps) = true then Oper.wp P oi a w K Q else K (a.put N undef) w := by
 refine call_ f args hw hN ?_ h
 have he := enters_ hf hname hb args w
 unfold execOp
 simp [hop, resolve, Deferred.ofValue, invoke, hx, hargs, he]
theorem impl_avoiding.goesVL_ {P : Program} {Q : Exit → Act → World → Prop} {ops : Array Oper} {rest : List Oper} {oi : Oper} {a : Act} {w : World} (N : Option Tmp) (hd : oi.dst = N) (hg : oi.guard = none) {f : FuncId} {fn : Func} {as_ : Array Operand} {ts : Array TypeId} {x : Operand} {first cap : Array Value} (hf : P.funcs[f]? = some fn) (hname : (fn.name == "runtime.NumGoroutine") = false) (hb : fn.body.isSome = true) (args : Array Value)
  (hop : oi.op = .call { callee := .value x, args := as_, argTypes := ts }) (hx : a.eval x = .func (.func f) first cap) (hargs : first ++ as_.map a.eval ++ cap = args)
  (h : Calls P f args w fun e w' => ∃ v, e = .returned v ∧ wpList P ops Q rest (a.put N v) w') : wpList P ops Q (oi :: rest) a w := by
 refine wpList_plain hg fun K hK => ?_
 have he := enters_ hf hname hb args w
 have hrun : (execOp a.eval oi).run P w = .ok (.enter f args) w := by
  unfold execOp
  simp [hop, resolve, Deferred.ofValue, invoke, hx, hargs, he]
 unfold Oper.wp
 rw [hrun, Oper.upon_enter]
 refine h.mono fun e w'' hh => ?_
 obtain ⟨v, rfl, hk⟩ := hh
 subst hd
 exact hK _ _ hk
def impl_avoiding.T4 : Bool × List (List Nat × List Nat) := (true, [([], []), ([], []), ([1], [1]), ([2], [2]), ([0, 3, 3], [0, 3]), ([4, 4, 0, 1, 2, 3, 4], [4])])
def impl_avoiding.B4 : List Nat := [0, 0, 2, 6, 15, 31]
theorem impl_avoiding.tab4 : rtab .any (opsOf Try.f24 4) = impl_avoiding.T4 := by kernel_rfl
theorem impl_avoiding.bits4 : waitsOk impl_avoiding.T4.2 impl_avoiding.B4 = true := by kernel_rfl
def impl_avoiding.T15 : Bool × List (List Nat × List Nat) := (true, [([], []), ([0], [0]), ([], []), ([], []), ([], []), ([2, 3, 4], [2, 3, 4]), ([], []), ([1, 5, 0, 1, 2, 3, 4, 5, 6], [1, 5]), ([7, 6, 5, 0, 1, 2, 3, 4, 5, 6], [6, 7])])
def impl_avoiding.B15 : List Nat := [0, 1, 0, 0, 0, 28, 0, 127, 255]
theorem impl_avoiding.tab15 : rtab .any (opsOf Try.f24 15) = impl_avoiding.T15 := by kernel_rfl
theorem impl_avoiding.bits15 : waitsOk impl_avoiding.T15.2 impl_avoiding.B15 = true := by kernel_rfl
set_option maxHeartbeats 16000000 in
set_option maxRecDepth 100000 in
theorem impl_avoiding.paint {σ : Type} (St : σ → World → Prop) (Sg : Nat → Prop) (e : σ → List Int → σ × Bool) (g : FuncId) (fn : Func) (lb : Array Value) (gn gl ge gx gp gr : Nat) (w0 : World) (hfn : Try.prog.funcs[g]? = some fn) (hnm : (fn.name == "runtime.NumGoroutine") = false) (hbd : fn.body.isSome = true)
  (hik : ∀ s W W', St s W → Kept W W' (fun k_ => k_ = gr) → St s W') (hsl : ∀ s W, St s W → ∀ k_, Sg k_ → k_ < W.heap.size)
  (hE : ∀ (W : World) (A : Option Addr) (c : Nat) (o : List Int) (s : σ), St s W → Below w0.heap.size w0 W → Kd.R (Kd.int .i64) 3 W w0.heap.size (fun k_ => k_ ≠ gr ∧ ¬ Sg k_) (.slice A o.length c) o → Calls Try.prog g (#[.slice A o.length c] ++ lb) W fun e' w' => e' = .returned (.bool (e s o).2) ∧ St (e s o).1 w' ∧ Below w0.heap.size w0 w' ∧ Kept W w' Sg)
  (hgr : w0.heap.size ≤ gr) (hS : ¬ Sg gn ∧ ¬ Sg gl ∧ ¬ Sg ge ∧ ¬ Sg gx ∧ ¬ Sg gp ∧ ¬ Sg gr) (hN : ¬ gn = gr ∧ ¬ gl = gr ∧ ¬ ge = gr ∧ ¬ gx = gr ∧ ¬ gp = gr) :
  ∀ (k : Nat) (n m : Int) (AX : Option Addr) (N cx : Nat) (X : List Int) (a b : Int) (s : σ) (r : Bool × List Int × σ) (w : World), impl_avoiding.Inv St gn gl ge gx gp gr n m AX N cx (.func (.func g) #[] lb) w0 w X s → impl_avoiding.p e k n m X a b s = some r →
  Calls Try.prog 24 #[.int .i64 a, .int .i64 b, .pointer (some ⟨gn, 0, none⟩), .pointer (some ⟨ge, 0, none⟩), .pointer (some ⟨gx, 0, none⟩), .pointer (some ⟨gl, 0, none⟩), .pointer (some ⟨gp, 0, none⟩)] w fun e' w' => e' = .returned (.bool r.1) ∧ impl_avoiding.Inv St gn gl ge gx gp gr n m AX N cx (.func (.func g) #[] lb) w0 w' r.2.1 r.2.2 := by
 have huP := Try.underlying27
 have HFN := Aside0.mk hfn
 have HNM := Aside0.mk hnm
 have HBD := Aside0.mk hbd
 have HIK := Aside0.mk hik
 have HSL := Aside0.mk hsl
 have HE := Aside0.mk hE
 have HGR := Aside0.mk hgr
 have HS := Aside0.mk hS
 have HN := Aside0.mk hN
 clear hfn hnm hbd hik hsl hE hgr hS hN
 intro kk
 induction kk using Nat.strongRecOn with
 | ind kk IH0 =>
 intro n m AX N cx X a b s r w hinv H
 have IH := Aside0.mk IH0
 have INV := Aside0.mk hinv
 have HNX := Aside0.mk (Kd.R_reads' hinv.hx).1
 have HCX := Aside0.mk (Kd.R_reads' hinv.hx).2.1
 clear IH0 hinv
 have hzn : w.cell? ⟨gn, 0, none⟩ = some (.int .i64 n) := (blk_cell INV.out.bn 0).trans rfl
 have hzl : w.cell? ⟨gl, 0, none⟩ = some (.int .i64 m) := (blk_cell INV.out.bl 0).trans rfl
 have hzx0 : w.cell? ⟨gx, 0, none⟩ = some (.int .i64 n) := (blk_cell INV.out.bx 0).trans rfl
 have hzx1 : w.cell? ⟨gx, 1, none⟩ = some (.int .i64 m) := (blk_cell INV.out.bx 1).trans rfl
 have hzx2 : w.cell? ⟨gx, 2, none⟩ = some (.slice AX N cx) := (blk_cell INV.out.bx 2).trans rfl
 have hzp : w.cell? ⟨gp, 0, none⟩ = some (.func (.func 24) #[] #[.pointer (some ⟨gn, 0, none⟩), .pointer (some ⟨ge, 0, none⟩), .pointer (some ⟨gx, 0, none⟩), .pointer (some ⟨gl, 0, none⟩), .pointer (some ⟨gp, 0, none⟩)]) := (blk_cell INV.out.bp 0).trans rfl
 rcases kk with _ | k
 ·simp [impl_avoiding.p] at H
 simp only [impl_avoiding.p] at H
 by_cases hb0 : n ≤ b
 ·rw [if_pos hb0] at H
  have hb1 : decide (b ≥ n) = true := decide_eq_true hb0
  have hb2 : decide (n ≤ b) = true := decide_eq_true hb0
  clear hb0
  rcases k with _ | k1
  ·simp [impl_avoiding.h] at H
  simp only [impl_avoiding.h] at H
  by_cases ha : wrap64 (n - 1) ≤ (wrap64 (a + 1))
  ·rw [if_pos ha] at H
   have ha1 : decide ((wrap64 (a + 1)) ≥ wrap64 (n - 1)) = true := decide_eq_true ha
   have ha2 : decide (wrap64 (n - 1) ≤ (wrap64 (a + 1))) = true := decide_eq_true ha
   clear ha
   obtain ⟨o, ho, H⟩ := Option.bind_eq_some_iff.1 H
   have A2 := Aside0.mk ho
   clear ho
   obtain rfl := Option.some.inj H
   go_enter Try.func24, Try.ntmps24
   go_wp2
   refine start_ (n := 6) (S := fun w' => w'.cell? ⟨ge, 0, none⟩ = some (.func (.func g) #[] lb) ∧ w'.cell? ⟨gx, 2, none⟩ = some (.slice AX N cx)) (ds := []) #[false, false, false, false, false, false] (by kernel_rfl) rfl rfl ⟨(blk_cell (blk_drew INV.out.be) 0).trans rfl, (blk_cell (blk_drew INV.out.bx) 2).trans rfl⟩ (fun hHeld => ?_)
   refine with_tabW impl_avoiding.tab4 impl_avoiding.bits4 (fun HT_ HW_ => ?_)
   have ID := Aside0.mk (impl_avoiding.Inv.below HIK.out INV.out (below_drew1 (Below.refl _ _)))
   clear hzn hzl hzx0 hzx1 hzx2 hzp
   generalize w.drew = wd at hHeld ID ⊢
   refine pure_ (i := 1) (N := some 25) (v := ?_) (a' := ?_) #[false, true, false, false, false, false] rfl rfl (any_of HT_.out (by kernel_rfl)) (fun _ _ _ h => h) (Or.inl ⟨by rfl, ?_⟩) ?_ ?_
   rotate_left
   ·intro w'
    go_simp
    with_reducible rfl
   rotate_left
   ·simp only [Act.put, List.setIfInBounds_toArray, List.set_cons_zero, List.set_cons_succ, i64_w, i32_w]
    rfl
   refine take_ (i := 0) (N := some 24) (v := ?_) (a' := ?_) #[true, true, false, false, false, false] rfl rfl (take_ofW HT_.out HW_.out (by kernel_rfl)) (fun _ _ _ h => h) (Or.inl ⟨by rfl, ?_⟩) hHeld ?_ ?_
   rotate_left
   ·rintro w' ⟨s0_, s1_⟩
    go_simp
    with_reducible rfl
   rotate_left
   ·simp only [Act.put, List.setIfInBounds_toArray, List.set_cons_zero, List.set_cons_succ, i64_w, i32_w]
    rfl
   refine take_ (i := 2) (N := some 26) (v := ?_) (a' := ?_) #[true, true, true, false, false, false] rfl rfl (take_ofW HT_.out HW_.out (by kernel_rfl)) (fun _ _ _ h => h) (Or.inl ⟨by rfl, ?_⟩) hHeld ?_ ?_
   rotate_left
   ·rintro w' ⟨s0_, s1_⟩
    go_simp
    with_reducible rfl
   rotate_left
   ·simp only [Act.put, List.setIfInBounds_toArray, List.set_cons_zero, List.set_cons_succ, i64_w, i32_w]
    rfl
   refine one_ (i := 3) (N := some 27) #[true, true, true, true, false, false] rfl rfl (one_of HT_.out (by kernel_rfl)) (by decide) (fun K hK => ?_)
   refine goes_ Try.func25 (by kernel_rfl) rfl #[.slice AX N cx] (by rfl) rfl rfl (by (try simp only [List.map_toArray, List.map_cons, List.map_nil]); first | done | rfl) ?_
   with_reducible refine (impl_avoiding.cloN AX N cx X o _ HNX.out ?k1 HCX.out A2.out).mono ?_
   (case k1 => exact (Kd.R_reads' ID.out.hx).2.2)
   rintro e_ w2 ⟨v2, rfl, ho0, hb⟩
   refine ⟨_, rfl, ?_⟩
   have I2 := Aside0.mk (impl_avoiding.Inv.below HIK.out ID.out hb)
   have HN2 := Aside0.mk (show Kd.R (Kd.int .i64) 3 w2 w0.heap.size (fun k_ => k_ ≠ gr ∧ ¬ Sg k_) v2 o from Kd.R_lower (Kd.R_mono (ok' := fun k_ => k_ ≠ gr ∧ ¬ Sg k_) (Kd.R_bound ho0) (fun k_ hk_ => ⟨Nat.ne_of_gt (Nat.lt_of_lt_of_le ID.out.lt hk_.2.1), fun hs_ => Nat.lt_irrefl _ (Nat.lt_of_lt_of_le (HSL.out _ _ ID.out.st _ hs_) hk_.2.1)⟩)) ID.out.hb.size)
   obtain ⟨Ao, co, eo_⟩ := Kd.R_slice HN2.out
   subst eo_
   clear ho0 hb
   refine hK.out _ _ ⟨(blk_cell I2.out.be 0).trans rfl, (blk_cell I2.out.bx 2).trans rfl⟩ (fun hHeld => ?_)
   clear hK K
   refine norm_ (a' := ?_) ?_ ?_
   rotate_left
   ·show Act.put _ (some 27) _ = _
    simp only [Act.put, List.setIfInBounds_toArray, List.set_cons_zero, List.set_cons_succ, i64_w, i32_w]
    rfl
   refine one_ (i := 4) (N := some 28) #[true, true, true, true, true, false] rfl rfl (one_of HT_.out (by kernel_rfl)) (by decide) (fun K hK => ?_)
   refine impl_avoiding.goesV_ HFN.out HNM.out HBD.out (#[.slice Ao o.length co] ++ lb) (by rfl) rfl rfl rfl (by simp [Act.eval]) ?_
   refine (HE.out w2 Ao co o s I2.out.st I2.out.hb HN2.out).mono ?_
   rintro e_ w3 ⟨rfl, hst3, hB3, hk3⟩
   refine ⟨_, rfl, ?_⟩
   have I3 := Aside0.mk (impl_avoiding.Inv.kept I2.out hk3 ⟨HS.out.1, HS.out.2.1, HS.out.2.2.1, HS.out.2.2.2.1, HS.out.2.2.2.2.1⟩ (Kd.R_kept I2.out.hx hk3 (fun k_ h_ hs_ => HS.out.2.2.2.2.2 (h_ ▸ hs_))) hst3 hB3)
   clear hst3 hB3 hk3
   refine hK.out _ _ ⟨(blk_cell I3.out.be 0).trans rfl, (blk_cell I3.out.bx 2).trans rfl⟩ (fun hHeld => ?_)
   clear hK K
   refine norm_ (a' := ?_) ?_ ?_
   rotate_left
   ·show Act.put _ (some 28) _ = _
    simp only [Act.put, List.setIfInBounds_toArray, List.set_cons_zero, List.set_cons_succ, i64_w, i32_w]
    rfl
   refine pure_ (i := 5) (N := some 9) (v := ?_) (a' := ?_) #[true, true, true, true, true, true] rfl rfl (any_of HT_.out (by kernel_rfl)) (fun _ _ _ h => h) (Or.inl ⟨by rfl, ?_⟩) ?_ ?_
   rotate_left
   ·intro w'
    go_simp
    with_reducible rfl
   rotate_left
   ·simp only [Act.put, List.setIfInBounds_toArray, List.set_cons_zero, List.set_cons_succ, i64_w, i32_w]
    rfl
   refine done_ (done_of HT_.out (by kernel_rfl)) ?_
   clear hHeld HT_ HW_
   go_wp2
   go_ret
   exact ⟨rfl, I3.out⟩
  rw [if_neg ha] at H
  have ha1 : decide ((wrap64 (a + 1)) ≥ wrap64 (n - 1)) = false := decide_eq_false ha
  have ha2 : decide (wrap64 (n - 1) ≤ (wrap64 (a + 1))) = false := decide_eq_false ha
  clear ha
  have H' := Aside0.mk H
  clear H
  go_enter Try.func24, Try.ntmps24
  go_wp2
  go_loopg [30] k1 (fun kq v30 w' => ∃ (col : Int) (X : List Int) (s : σ), v30 = .int .i64 col ∧ Aside0 (impl_avoiding.l0 e kq n m X (wrap64 (a + 1)) (wrap64 (a + 2)) s col = some r) ∧ Aside0 (kq ≤ k1) ∧ Aside0 (impl_avoiding.Inv St gn gl ge gx gp gr n m AX N cx (.func (.func g) #[] lb) w0 w' X s))
  case atStart => exact ⟨0, X, s, (by first | rfl | (simp; done) | (simp [*]; done)), H', ⟨Nat.le_refl _⟩, ⟨(impl_avoiding.Inv.below HIK.out INV.out (by repeat (first | exact Below.refl _ _ | apply below_alloc | apply pw_below_drewN | apply below_drew1)))⟩⟩
  case round =>
   clear H' INV HNX hzn hzl hzx0 hzx1 hzx2 hzp
   obtain ⟨col, X, s, rfl, HA, HKk, INV⟩ := hrel
   have H := HA.out
   clear HA
   have HNX := Aside0.mk (Kd.R_reads' INV.out.hx).1
   rcases gk with _ | k2
   ·simp [impl_avoiding.l0] at H
   simp only [impl_avoiding.l0] at H
   have hzn : wr.cell? ⟨gn, 0, none⟩ = some (.int .i64 n) := (blk_cell INV.out.bn 0).trans rfl
   have hzl : wr.cell? ⟨gl, 0, none⟩ = some (.int .i64 m) := (blk_cell INV.out.bl 0).trans rfl
   have hzx0 : wr.cell? ⟨gx, 0, none⟩ = some (.int .i64 n) := (blk_cell INV.out.bx 0).trans rfl
   have hzx1 : wr.cell? ⟨gx, 1, none⟩ = some (.int .i64 m) := (blk_cell INV.out.bx 1).trans rfl
   have hzx2 : wr.cell? ⟨gx, 2, none⟩ = some (.slice AX N cx) := (blk_cell INV.out.bx 2).trans rfl
   have hzp : wr.cell? ⟨gp, 0, none⟩ = some (.func (.func 24) #[] #[.pointer (some ⟨gn, 0, none⟩), .pointer (some ⟨ge, 0, none⟩), .pointer (some ⟨gx, 0, none⟩), .pointer (some ⟨gl, 0, none⟩), .pointer (some ⟨gp, 0, none⟩)]) := (blk_cell INV.out.bp 0).trans rfl
   by_cases q0 : col < m
   rotate_left
   ·rw [if_neg q0] at H
    have q01 : decide (col < m) = false := decide_eq_false q0
    clear q0
    obtain rfl := Option.some.inj H
    go_wp2
    go_ret
    exact ⟨rfl, (impl_avoiding.Inv.below HIK.out INV.out (by repeat (first | exact Below.refl _ _ | apply below_alloc | apply pw_below_drewN | apply below_drew1)))⟩
   rw [if_pos q0] at H
   have q01 : decide (col < m) = true := decide_eq_true q0
   clear q0
   obtain ⟨clr, hcl, H⟩ := Option.bind_eq_some_iff.1 H
   have A1 := Aside0.mk hcl
   have HR := Aside0.mk H
   clear hcl H
   go_wp2
   go_loopg [11, 34] k2 (fun kq v11 v34 w' => ∃ (c : Int) (cl : Bool), v11 = .bool cl ∧ v34 = .int .i64 c ∧ Aside0 (impl_avoiding.l1 kq n m X (wrap64 (a + 1)) (wrap64 (a + 2)) col c cl = some clr) ∧ Aside0 (kq ≤ k2) ∧ Aside0 (impl_avoiding.Inv St gn gl ge gx gp gr n m AX N cx (.func (.func g) #[] lb) w0 w' X s))
   case atStart => exact ⟨0, false, (by first | rfl | (simp; done) | (simp [*]; done)), (by first | rfl | (simp; done) | (simp [*]; done)), A1, ⟨Nat.le_refl _⟩, ⟨(impl_avoiding.Inv.below HIK.out INV.out (by repeat (first | exact Below.refl _ _ | apply below_alloc | apply pw_below_drewN | apply below_drew1)))⟩⟩
   case round =>
    clear A1 INV hzn hzl hzx0 hzx1 hzx2 hzp
    obtain ⟨c, cl, rfl, rfl, HA1, HK1, INV⟩ := hrel
    have H1 := HA1.out
    clear HA1
    have hzn : wr.cell? ⟨gn, 0, none⟩ = some (.int .i64 n) := (blk_cell INV.out.bn 0).trans rfl
    have hzl : wr.cell? ⟨gl, 0, none⟩ = some (.int .i64 m) := (blk_cell INV.out.bl 0).trans rfl
    have hzx0 : wr.cell? ⟨gx, 0, none⟩ = some (.int .i64 n) := (blk_cell INV.out.bx 0).trans rfl
    have hzx1 : wr.cell? ⟨gx, 1, none⟩ = some (.int .i64 m) := (blk_cell INV.out.bx 1).trans rfl
    have hzx2 : wr.cell? ⟨gx, 2, none⟩ = some (.slice AX N cx) := (blk_cell INV.out.bx 2).trans rfl
    have hzp : wr.cell? ⟨gp, 0, none⟩ = some (.func (.func 24) #[] #[.pointer (some ⟨gn, 0, none⟩), .pointer (some ⟨ge, 0, none⟩), .pointer (some ⟨gx, 0, none⟩), .pointer (some ⟨gl, 0, none⟩), .pointer (some ⟨gp, 0, none⟩)]) := (blk_cell INV.out.bp 0).trans rfl
    rcases gk with _ | k3
    ·simp [impl_avoiding.l1] at H1
    simp only [impl_avoiding.l1] at H1
    by_cases q2_ : c < (wrap64 (a + 1))
    ·rw [if_pos q2_] at H1
     have q21 : decide (c < (wrap64 (a + 1))) = true := decide_eq_true q2_
     clear q2_
     cases cl with
     | true =>
      rw [if_pos rfl] at H1
      have H' := Aside0.mk H1
      clear H1
      go_wp2
      go_roundg k3
      case measure => have := HK1.out; omega
      case rel => exact ⟨wrap64 (c + 1), true, (by first | rfl | (simp; done) | (simp [*]; done)), (by first | rfl | (simp; done) | (simp [*]; done)), H', ⟨by have := HK1.out; omega⟩, ⟨(impl_avoiding.Inv.below HIK.out INV.out (by repeat (first | exact Below.refl _ _ | apply below_alloc | apply pw_below_drewN | apply below_drew1)))⟩⟩
     | false =>
      rw [if_neg (by simp)] at H1
      obtain ⟨u, hu, H1⟩ := Option.bind_eq_some_iff.1 H1
      have AU := Aside0.mk hu
      clear hu
      by_cases hu0 : u = col
      ·rw [if_pos hu0] at H1
       have hu1 : decide (u = col) = true := decide_eq_true hu0
       have hu2 : (u == col) = true := by simpa using hu0
       clear hu0
       obtain ⟨v, hv, H1⟩ := Option.bind_eq_some_iff.1 H1
       have AV := Aside0.mk hv
       have H' := Aside0.mk H1
       clear hv H1
       go_wp2_with (first | (go_at_call 26; (with_reducible refine (impl_avoiding.ofN n m AX N cx X c (wrap64 (a + 1)) u _ HNX.out ?k1 HCX.out AU.out).mono ?_); (case k1 => exact (Kd.R_reads' INV.out.hx).2.2); rintro e_ w7 ⟨rfl, hb⟩; clear hzn hzl hzx0 hzx1 hzx2 hzp; have INV2 := Aside0.mk (impl_avoiding.Inv.below HIK.out INV.out hb); have hzn : w7.cell? ⟨gn, 0, none⟩ = some (.int .i64 n) := (blk_cell INV2.out.bn 0).trans rfl; have hzl : w7.cell? ⟨gl, 0, none⟩ = some (.int .i64 m) := (blk_cell INV2.out.bl 0).trans rfl; have hzx0 : w7.cell? ⟨gx, 0, none⟩ = some (.int .i64 n) := (blk_cell INV2.out.bx 0).trans rfl; have hzx1 : w7.cell? ⟨gx, 1, none⟩ = some (.int .i64 m) := (blk_cell INV2.out.bx 1).trans rfl; have hzx2 : w7.cell? ⟨gx, 2, none⟩ = some (.slice AX N cx) := (blk_cell INV2.out.bx 2).trans rfl; have hzp : w7.cell? ⟨gp, 0, none⟩ = some (.func (.func 24) #[] #[.pointer (some ⟨gn, 0, none⟩), .pointer (some ⟨ge, 0, none⟩), .pointer (some ⟨gx, 0, none⟩), .pointer (some ⟨gl, 0, none⟩), .pointer (some ⟨gp, 0, none⟩)]) := (blk_cell INV2.out.bp 0).trans rfl; clear hb) | (go_at_call 26; (with_reducible refine (impl_avoiding.ofN n m AX N cx X c (wrap64 (a + 2)) v _ HNX.out ?k1 HCX.out AV.out).mono ?_); (case k1 => exact (Kd.R_reads' INV2.out.hx).2.2); rintro e_ w8 ⟨rfl, hb⟩; clear hzn hzl hzx0 hzx1 hzx2 hzp; have INV3 := Aside0.mk (impl_avoiding.Inv.below HIK.out INV2.out hb); have hzn : w8.cell? ⟨gn, 0, none⟩ = some (.int .i64 n) := (blk_cell INV3.out.bn 0).trans rfl; have hzl : w8.cell? ⟨gl, 0, none⟩ = some (.int .i64 m) := (blk_cell INV3.out.bl 0).trans rfl; have hzx0 : w8.cell? ⟨gx, 0, none⟩ = some (.int .i64 n) := (blk_cell INV3.out.bx 0).trans rfl; have hzx1 : w8.cell? ⟨gx, 1, none⟩ = some (.int .i64 m) := (blk_cell INV3.out.bx 1).trans rfl; have hzx2 : w8.cell? ⟨gx, 2, none⟩ = some (.slice AX N cx) := (blk_cell INV3.out.bx 2).trans rfl; have hzp : w8.cell? ⟨gp, 0, none⟩ = some (.func (.func 24) #[] #[.pointer (some ⟨gn, 0, none⟩), .pointer (some ⟨ge, 0, none⟩), .pointer (some ⟨gx, 0, none⟩), .pointer (some ⟨gl, 0, none⟩), .pointer (some ⟨gp, 0, none⟩)]) := (blk_cell INV3.out.bp 0).trans rfl; clear hb))
       go_roundg k3
       case measure => have := HK1.out; omega
       case rel => exact ⟨wrap64 (c + 1), (v == col), (by first | rfl | (simp; done) | (simp [*]; done)), (by first | rfl | (simp; done) | (simp [*]; done)), H', ⟨by have := HK1.out; omega⟩, ⟨(impl_avoiding.Inv.below HIK.out INV3.out (by repeat (first | exact Below.refl _ _ | apply below_alloc | apply pw_below_drewN | apply below_drew1)))⟩⟩
      ·rw [if_neg hu0] at H1
       have hu1 : decide (u = col) = false := decide_eq_false hu0
       have hu2 : (u == col) = false := by simpa using hu0
       clear hu0
       have H' := Aside0.mk H1
       clear H1
       go_wp2_with (first | (go_at_call 26; (with_reducible refine (impl_avoiding.ofN n m AX N cx X c (wrap64 (a + 1)) u _ HNX.out ?k1 HCX.out AU.out).mono ?_); (case k1 => exact (Kd.R_reads' INV.out.hx).2.2); rintro e_ w7 ⟨rfl, hb⟩; clear hzn hzl hzx0 hzx1 hzx2 hzp; have INV2 := Aside0.mk (impl_avoiding.Inv.below HIK.out INV.out hb); have hzn : w7.cell? ⟨gn, 0, none⟩ = some (.int .i64 n) := (blk_cell INV2.out.bn 0).trans rfl; have hzl : w7.cell? ⟨gl, 0, none⟩ = some (.int .i64 m) := (blk_cell INV2.out.bl 0).trans rfl; have hzx0 : w7.cell? ⟨gx, 0, none⟩ = some (.int .i64 n) := (blk_cell INV2.out.bx 0).trans rfl; have hzx1 : w7.cell? ⟨gx, 1, none⟩ = some (.int .i64 m) := (blk_cell INV2.out.bx 1).trans rfl; have hzx2 : w7.cell? ⟨gx, 2, none⟩ = some (.slice AX N cx) := (blk_cell INV2.out.bx 2).trans rfl; have hzp : w7.cell? ⟨gp, 0, none⟩ = some (.func (.func 24) #[] #[.pointer (some ⟨gn, 0, none⟩), .pointer (some ⟨ge, 0, none⟩), .pointer (some ⟨gx, 0, none⟩), .pointer (some ⟨gl, 0, none⟩), .pointer (some ⟨gp, 0, none⟩)]) := (blk_cell INV2.out.bp 0).trans rfl; clear hb))
       go_roundg k3
       case measure => have := HK1.out; omega
       case rel => exact ⟨wrap64 (c + 1), false, (by first | rfl | (simp; done) | (simp [*]; done)), (by first | rfl | (simp; done) | (simp [*]; done)), H', ⟨by have := HK1.out; omega⟩, ⟨(impl_avoiding.Inv.below HIK.out INV2.out (by repeat (first | exact Below.refl _ _ | apply below_alloc | apply pw_below_drewN | apply below_drew1)))⟩⟩
    rw [if_neg q2_] at H1
    have q21 : decide (c < (wrap64 (a + 1))) = false := decide_eq_false q2_
    clear q2_
    obtain rfl := Option.some.inj H1
    clear H1
    have H := HR.out
    cases cl with
    | true =>
     rw [if_pos rfl] at H
     have H' := Aside0.mk H
     clear H
     go_wp2
     go_roundg k2
     case measure => have := HKk.out; omega
     case rel => exact ⟨wrap64 (col + 1), X, s, (by first | rfl | (simp; done) | (simp [*]; done)), H', ⟨by have := HKk.out; omega⟩, ⟨(impl_avoiding.Inv.below HIK.out INV.out (by repeat (first | exact Below.refl _ _ | apply below_alloc | apply pw_below_drewN | apply below_drew1)))⟩⟩
    | false =>
     rw [if_neg (by simp)] at H
     obtain ⟨p, hp, H⟩ := Option.bind_eq_some_iff.1 H
     have A3 := Aside0.mk hp
     clear hp
     by_cases p1 : 0 ≤ p
     rotate_left
     ·rw [if_neg p1] at H; cases H
     rw [if_pos p1] at H
     by_cases p2 : p < (X.length : Int)
     rotate_left
     ·rw [if_neg p2] at H; cases H
     rw [if_pos p2] at H
     obtain ⟨Y, hY⟩ : ∃ Y_ : List Int, Y_ = X.set p.toNat col := ⟨_, rfl⟩
     rw [← hY] at H
     have NY := Aside0.mk hY
     clear hY
     obtain ⟨g_, c_, e_, gb_, gl_, cl_, HG_⟩ := Kd.R_form INV.out.hx (by omega)
     injection e_ with e1_ e2_ e3_
     subst e1_
     subst e3_
     have eg_ : gr = g_ := (INV.out.hx.1 g_ rfl).symm
     subst eg_
     clear gb_ gl_ HG_ e2_ cl_
     rw [← HNX.out] at p2
     replace p1 := eq_true p1
     replace p2 := eq_true p2
     obtain ⟨q, hq, H⟩ := Option.bind_eq_some_iff.1 H
     have A4 := Aside0.mk hq
     clear hq
     go_wp2
     refine start_ (n := 9) (S := fun w' => w'.cell? ⟨gn, 0, none⟩ = some (.int .i64 n) ∧ w'.cell? ⟨gx, 2, none⟩ = some (.slice (some ⟨gr, 0, none⟩) N cx)) (ds := [8]) #[false, false, false, false, false, false, false, false, false] (by kernel_rfl) rfl rfl ⟨(blk_cell (blk_drew INV.out.bn) 0).trans rfl, (blk_cell (blk_drew INV.out.bx) 2).trans rfl⟩ (fun hHeld => ?_)
     refine with_tabW impl_avoiding.tab15 impl_avoiding.bits15 (fun HT_ HW_ => ?_)
     have ID := Aside0.mk (impl_avoiding.Inv.below HIK.out INV.out (below_drew1 (Below.refl _ _)))
     clear hzn hzl hzx0 hzx1 hzx2 hzp INV
     generalize wr.drew = wd at hHeld ID ⊢
     refine pure_ (i := 0) (N := some 56) (v := ?_) (a' := ?_) #[true, false, false, false, false, false, false, false, false] rfl rfl (any_of HT_.out (by kernel_rfl)) (fun _ _ _ h => h) (Or.inl ⟨by rfl, ?_⟩) ?_ ?_
     rotate_left
     ·intro w'
      go_simp
      with_reducible rfl
     rotate_left
     ·simp only [Act.put, List.setIfInBounds_toArray, List.set_cons_zero, List.set_cons_succ, i64_w, i32_w]
      rfl
     refine pure_ (i := 3) (N := some 59) (v := ?_) (a' := ?_) #[true, false, false, true, false, false, false, false, false] rfl rfl (any_of HT_.out (by kernel_rfl)) (fun _ _ _ h => h) (Or.inl ⟨by rfl, ?_⟩) ?_ ?_
     rotate_left
     ·intro w'
      go_simp
      with_reducible rfl
     rotate_left
     ·simp only [Act.put, List.setIfInBounds_toArray, List.set_cons_zero, List.set_cons_succ, i64_w, i32_w]
      rfl
     refine pure_ (i := 4) (N := some 60) (v := ?_) (a' := ?_) #[true, false, false, true, true, false, false, false, false] rfl rfl (any_of HT_.out (by kernel_rfl)) (fun _ _ _ h => h) (Or.inl ⟨by rfl, ?_⟩) ?_ ?_
     rotate_left
     ·intro w'
      go_simp
      with_reducible rfl
     rotate_left
     ·simp only [Act.put, List.setIfInBounds_toArray, List.set_cons_zero, List.set_cons_succ, i64_w, i32_w]
      rfl
     refine pure_ (i := 6) (N := some 62) (v := ?_) (a' := ?_) #[true, false, false, true, true, false, true, false, false] rfl rfl (any_of HT_.out (by kernel_rfl)) (fun _ _ _ h => h) (Or.inl ⟨by rfl, ?_⟩) ?_ ?_
     rotate_left
     ·intro w'
      go_simp
      with_reducible rfl
     rotate_left
     ·simp only [Act.put, List.setIfInBounds_toArray, List.set_cons_zero, List.set_cons_succ, i64_w, i32_w]
      rfl
     refine take_ (i := 1) (N := some 57) (v := ?_) (a' := ?_) #[true, true, false, true, true, false, true, false, false] rfl rfl (take_ofW HT_.out HW_.out (by kernel_rfl)) (fun _ _ _ h => h) (Or.inl ⟨by rfl, ?_⟩) hHeld ?_ ?_
     rotate_left
     ·rintro w' ⟨s0_, s1_⟩
      go_simp
      with_reducible rfl
     rotate_left
     ·simp only [Act.put, List.setIfInBounds_toArray, List.set_cons_zero, List.set_cons_succ, i64_w, i32_w]
      rfl
     refine take_ (i := 2) (N := some 58) (v := ?_) (a' := ?_) #[true, true, true, true, true, false, true, false, false] rfl rfl (take_ofW HT_.out HW_.out (by kernel_rfl)) (fun _ _ _ h => h) (Or.inl ⟨by rfl, ?_⟩) hHeld ?_ ?_
     rotate_left
     ·rintro w' ⟨s0_, s1_⟩
      go_simp
      with_reducible rfl
     rotate_left
     ·simp only [Act.put, List.setIfInBounds_toArray, List.set_cons_zero, List.set_cons_succ, i64_w, i32_w]
      rfl
     refine one_ (i := 5) (N := some 61) #[true, true, true, true, true, true, true, false, false] rfl rfl (one_of HT_.out (by kernel_rfl)) (by decide) (fun K hK => ?_)
     refine goes_ Try.func27 (by kernel_rfl) rfl #[.int .i64 n, .int .i64 (wrap64 (a + 1)), .int .i64 (wrap64 (a + 2))] (by rfl) rfl rfl (by (try simp only [List.map_toArray, List.map_cons, List.map_nil]); first | done | rfl) ?_
     with_reducible refine (impl_place.calls n (wrap64 (a + 1)) (wrap64 (a + 2)) p _ A3.out).mono ?_
     rintro e_ w4 ⟨rfl, hb⟩
     refine ⟨_, rfl, ?_⟩
     have I4 := Aside0.mk (impl_avoiding.Inv.below HIK.out ID.out hb)
     clear hb
     obtain ⟨hxr_, hfr_⟩ := Kd.R_celln 0 I4.out.hx p (of_eq_true p1) (of_eq_true p2)
     refine hK.out _ _ ⟨(blk_cell I4.out.bn 0).trans rfl, (blk_cell I4.out.bx 2).trans rfl⟩ (fun hHeld => ?_)
     clear hK K
     refine norm_ (a' := ?_) ?_ ?_
     rotate_left
     ·show Act.put _ (some 61) _ = _
      simp only [Act.put, List.setIfInBounds_toArray, List.set_cons_zero, List.set_cons_succ, i64_w, i32_w]
      rfl
     refine pure_ (i := 7) (N := some 63) (v := ?_) (a' := ?_) #[true, true, true, true, true, true, true, true, false] rfl rfl (any_of HT_.out (by kernel_rfl)) (fun _ _ _ h => h) (Or.inl ⟨by rfl, ?_⟩) ?_ ?_
     rotate_left
     ·intro w'
      go_simp
      with_reducible rfl
     rotate_left
     ·simp only [Act.put, List.setIfInBounds_toArray, List.set_cons_zero, List.set_cons_succ, i64_w, i32_w]
      rfl
     refine last_ (i := 8) (N := none) #[true, true, true, true, true, true, true, true, true] rfl rfl (one_of HT_.out (by kernel_rfl)) (by decide) (fun K hK => ?_)
     refine skip_ (w1 := (w4.setCell ⟨gr, (p : Int).toNat, none⟩ (.int .i64 col))) (by rfl) rfl ?_ ?_
     ·first | (go_simp; done) | (go_simp; rfl)
     refine hK.out _ _ ?_
     clear hK K
     refine done_ (done_of HT_.out (by kernel_rfl)) ?_
     have KS5 : Kept w4 (w4.setCell ⟨gr, (p : Int).toNat, none⟩ (.int .i64 col)) (fun k_ => k_ = gr) := Kept.setCell (Kept.refl w4 _) (.inl (by rfl)) _
     have HX5 : Kd.R (Kd.int .i64) 3 (w4.setCell ⟨gr, (p : Int).toNat, none⟩ (.int .i64 col)) w0.heap.size (fun k_ => k_ = gr) (.slice (some ⟨gr, 0, none⟩) N cx) Y := by rw [NY.out]; exact Kd.R_putn I4.out.hx (p : Int) col
     have I5 := Aside0.mk (impl_avoiding.Inv.kept I4.out KS5 ⟨HN.out.1, HN.out.2.1, HN.out.2.2.1, HN.out.2.2.2.1, HN.out.2.2.2.2⟩ HX5 (HIK.out s _ _ I4.out.st KS5) (below_set I4.out.hb HGR.out))
     clear KS5 HX5 hxr_ hfr_ hHeld HT_ HW_ ID I4
     generalize (w4.setCell ⟨gr, (p : Int).toNat, none⟩ (.int .i64 col)) = w5 at I5 ⊢
     have hzn : w5.cell? ⟨gn, 0, none⟩ = some (.int .i64 n) := (blk_cell I5.out.bn 0).trans rfl
     have hzl : w5.cell? ⟨gl, 0, none⟩ = some (.int .i64 m) := (blk_cell I5.out.bl 0).trans rfl
     have hzx0 : w5.cell? ⟨gx, 0, none⟩ = some (.int .i64 n) := (blk_cell I5.out.bx 0).trans rfl
     have hzx1 : w5.cell? ⟨gx, 1, none⟩ = some (.int .i64 m) := (blk_cell I5.out.bx 1).trans rfl
     have hzx2 : w5.cell? ⟨gx, 2, none⟩ = some (.slice (some ⟨gr, 0, none⟩) N cx) := (blk_cell I5.out.bx 2).trans rfl
     have hzp : w5.cell? ⟨gp, 0, none⟩ = some (.func (.func 24) #[] #[.pointer (some ⟨gn, 0, none⟩), .pointer (some ⟨ge, 0, none⟩), .pointer (some ⟨gx, 0, none⟩), .pointer (some ⟨gl, 0, none⟩), .pointer (some ⟨gp, 0, none⟩)]) := (blk_cell I5.out.bp 0).trans rfl
     obtain ⟨qb, qX, qs⟩ := q
     cases qb with
     | false =>
      rw [if_neg (by simp)] at H
      obtain rfl := Option.some.inj H
      go_wp2_with (first | ((with_reducible refine gate_dst (N := 68) rfl ?_); refine impl_avoiding.goesVL_ (some 68) rfl rfl Try.func24 (by kernel_rfl) rfl #[.int .i64 (wrap64 (a + 1)), .int .i64 (wrap64 ((wrap64 (a + 2)) + 1)), .pointer (some ⟨gn, 0, none⟩), .pointer (some ⟨ge, 0, none⟩), .pointer (some ⟨gx, 0, none⟩), .pointer (some ⟨gl, 0, none⟩), .pointer (some ⟨gp, 0, none⟩)] rfl rfl (by simp [Act.eval]) ?_; refine (IH.out k2 (by have := HKk.out; omega) n m (some ⟨gr, 0, none⟩) N cx Y (wrap64 (a + 1)) (wrap64 ((wrap64 (a + 2)) + 1)) s _ _ I5.out A4.out).mono ?_; rintro e_ w6 ⟨rfl, hi6⟩; refine ⟨_, rfl, ?_⟩; have I6 := Aside0.mk hi6; clear hi6))
      go_ret
      exact ⟨rfl, (impl_avoiding.Inv.below HIK.out I6.out (by repeat (first | exact Below.refl _ _ | apply below_alloc | apply pw_below_drewN | apply below_drew1)))⟩
     | true =>
      rw [if_pos rfl] at H
      have H' := Aside0.mk H
      clear H
      go_wp2_with (first | ((with_reducible refine gate_dst (N := 68) rfl ?_); refine impl_avoiding.goesVL_ (some 68) rfl rfl Try.func24 (by kernel_rfl) rfl #[.int .i64 (wrap64 (a + 1)), .int .i64 (wrap64 ((wrap64 (a + 2)) + 1)), .pointer (some ⟨gn, 0, none⟩), .pointer (some ⟨ge, 0, none⟩), .pointer (some ⟨gx, 0, none⟩), .pointer (some ⟨gl, 0, none⟩), .pointer (some ⟨gp, 0, none⟩)] rfl rfl (by simp [Act.eval]) ?_; refine (IH.out k2 (by have := HKk.out; omega) n m (some ⟨gr, 0, none⟩) N cx Y (wrap64 (a + 1)) (wrap64 ((wrap64 (a + 2)) + 1)) s _ _ I5.out A4.out).mono ?_; rintro e_ w6 ⟨rfl, hi6⟩; refine ⟨_, rfl, ?_⟩; have I6 := Aside0.mk hi6; clear hi6))
      go_roundg k2
      case measure => have := HKk.out; omega
      case rel => exact ⟨wrap64 (col + 1), qX, qs, (by first | rfl | (simp; done) | (simp [*]; done)), H', ⟨by have := HKk.out; omega⟩, ⟨(impl_avoiding.Inv.below HIK.out I6.out (by repeat (first | exact Below.refl _ _ | apply below_alloc | apply pw_below_drewN | apply below_drew1)))⟩⟩
 ·rw [if_neg hb0] at H
  have hb1 : decide (b ≥ n) = false := decide_eq_false hb0
  have hb2 : decide (n ≤ b) = false := decide_eq_false hb0
  clear hb0
  rcases k with _ | k1
  ·simp [impl_avoiding.h] at H
  simp only [impl_avoiding.h] at H
  by_cases ha : wrap64 (n - 1) ≤ a
  ·rw [if_pos ha] at H
   have ha1 : decide (a ≥ wrap64 (n - 1)) = true := decide_eq_true ha
   have ha2 : decide (wrap64 (n - 1) ≤ a) = true := decide_eq_true ha
   clear ha
   obtain ⟨o, ho, H⟩ := Option.bind_eq_some_iff.1 H
   have A2 := Aside0.mk ho
   clear ho
   obtain rfl := Option.some.inj H
   go_enter Try.func24, Try.ntmps24
   go_wp2
   refine start_ (n := 6) (S := fun w' => w'.cell? ⟨ge, 0, none⟩ = some (.func (.func g) #[] lb) ∧ w'.cell? ⟨gx, 2, none⟩ = some (.slice AX N cx)) (ds := []) #[false, false, false, false, false, false] (by kernel_rfl) rfl rfl ⟨(blk_cell (blk_drew INV.out.be) 0).trans rfl, (blk_cell (blk_drew INV.out.bx) 2).trans rfl⟩ (fun hHeld => ?_)
   refine with_tabW impl_avoiding.tab4 impl_avoiding.bits4 (fun HT_ HW_ => ?_)
   have ID := Aside0.mk (impl_avoiding.Inv.below HIK.out INV.out (below_drew1 (Below.refl _ _)))
   clear hzn hzl hzx0 hzx1 hzx2 hzp
   generalize w.drew = wd at hHeld ID ⊢
   refine pure_ (i := 1) (N := some 25) (v := ?_) (a' := ?_) #[false, true, false, false, false, false] rfl rfl (any_of HT_.out (by kernel_rfl)) (fun _ _ _ h => h) (Or.inl ⟨by rfl, ?_⟩) ?_ ?_
   rotate_left
   ·intro w'
    go_simp
    with_reducible rfl
   rotate_left
   ·simp only [Act.put, List.setIfInBounds_toArray, List.set_cons_zero, List.set_cons_succ, i64_w, i32_w]
    rfl
   refine take_ (i := 0) (N := some 24) (v := ?_) (a' := ?_) #[true, true, false, false, false, false] rfl rfl (take_ofW HT_.out HW_.out (by kernel_rfl)) (fun _ _ _ h => h) (Or.inl ⟨by rfl, ?_⟩) hHeld ?_ ?_
   rotate_left
   ·rintro w' ⟨s0_, s1_⟩
    go_simp
    with_reducible rfl
   rotate_left
   ·simp only [Act.put, List.setIfInBounds_toArray, List.set_cons_zero, List.set_cons_succ, i64_w, i32_w]
    rfl
   refine take_ (i := 2) (N := some 26) (v := ?_) (a' := ?_) #[true, true, true, false, false, false] rfl rfl (take_ofW HT_.out HW_.out (by kernel_rfl)) (fun _ _ _ h => h) (Or.inl ⟨by rfl, ?_⟩) hHeld ?_ ?_
   rotate_left
   ·rintro w' ⟨s0_, s1_⟩
    go_simp
    with_reducible rfl
   rotate_left
   ·simp only [Act.put, List.setIfInBounds_toArray, List.set_cons_zero, List.set_cons_succ, i64_w, i32_w]
    rfl
   refine one_ (i := 3) (N := some 27) #[true, true, true, true, false, false] rfl rfl (one_of HT_.out (by kernel_rfl)) (by decide) (fun K hK => ?_)
   refine goes_ Try.func25 (by kernel_rfl) rfl #[.slice AX N cx] (by rfl) rfl rfl (by (try simp only [List.map_toArray, List.map_cons, List.map_nil]); first | done | rfl) ?_
   with_reducible refine (impl_avoiding.cloN AX N cx X o _ HNX.out ?k1 HCX.out A2.out).mono ?_
   (case k1 => exact (Kd.R_reads' ID.out.hx).2.2)
   rintro e_ w2 ⟨v2, rfl, ho0, hb⟩
   refine ⟨_, rfl, ?_⟩
   have I2 := Aside0.mk (impl_avoiding.Inv.below HIK.out ID.out hb)
   have HN2 := Aside0.mk (show Kd.R (Kd.int .i64) 3 w2 w0.heap.size (fun k_ => k_ ≠ gr ∧ ¬ Sg k_) v2 o from Kd.R_lower (Kd.R_mono (ok' := fun k_ => k_ ≠ gr ∧ ¬ Sg k_) (Kd.R_bound ho0) (fun k_ hk_ => ⟨Nat.ne_of_gt (Nat.lt_of_lt_of_le ID.out.lt hk_.2.1), fun hs_ => Nat.lt_irrefl _ (Nat.lt_of_lt_of_le (HSL.out _ _ ID.out.st _ hs_) hk_.2.1)⟩)) ID.out.hb.size)
   obtain ⟨Ao, co, eo_⟩ := Kd.R_slice HN2.out
   subst eo_
   clear ho0 hb
   refine hK.out _ _ ⟨(blk_cell I2.out.be 0).trans rfl, (blk_cell I2.out.bx 2).trans rfl⟩ (fun hHeld => ?_)
   clear hK K
   refine norm_ (a' := ?_) ?_ ?_
   rotate_left
   ·show Act.put _ (some 27) _ = _
    simp only [Act.put, List.setIfInBounds_toArray, List.set_cons_zero, List.set_cons_succ, i64_w, i32_w]
    rfl
   refine one_ (i := 4) (N := some 28) #[true, true, true, true, true, false] rfl rfl (one_of HT_.out (by kernel_rfl)) (by decide) (fun K hK => ?_)
   refine impl_avoiding.goesV_ HFN.out HNM.out HBD.out (#[.slice Ao o.length co] ++ lb) (by rfl) rfl rfl rfl (by simp [Act.eval]) ?_
   refine (HE.out w2 Ao co o s I2.out.st I2.out.hb HN2.out).mono ?_
   rintro e_ w3 ⟨rfl, hst3, hB3, hk3⟩
   refine ⟨_, rfl, ?_⟩
   have I3 := Aside0.mk (impl_avoiding.Inv.kept I2.out hk3 ⟨HS.out.1, HS.out.2.1, HS.out.2.2.1, HS.out.2.2.2.1, HS.out.2.2.2.2.1⟩ (Kd.R_kept I2.out.hx hk3 (fun k_ h_ hs_ => HS.out.2.2.2.2.2 (h_ ▸ hs_))) hst3 hB3)
   clear hst3 hB3 hk3
   refine hK.out _ _ ⟨(blk_cell I3.out.be 0).trans rfl, (blk_cell I3.out.bx 2).trans rfl⟩ (fun hHeld => ?_)
   clear hK K
   refine norm_ (a' := ?_) ?_ ?_
   rotate_left
   ·show Act.put _ (some 28) _ = _
    simp only [Act.put, List.setIfInBounds_toArray, List.set_cons_zero, List.set_cons_succ, i64_w, i32_w]
    rfl
   refine pure_ (i := 5) (N := some 9) (v := ?_) (a' := ?_) #[true, true, true, true, true, true] rfl rfl (any_of HT_.out (by kernel_rfl)) (fun _ _ _ h => h) (Or.inl ⟨by rfl, ?_⟩) ?_ ?_
   rotate_left
   ·intro w'
    go_simp
    with_reducible rfl
   rotate_left
   ·simp only [Act.put, List.setIfInBounds_toArray, List.set_cons_zero, List.set_cons_succ, i64_w, i32_w]
    rfl
   refine done_ (done_of HT_.out (by kernel_rfl)) ?_
   clear hHeld HT_ HW_
   go_wp2
   go_ret
   exact ⟨rfl, I3.out⟩
  rw [if_neg ha] at H
  have ha1 : decide (a ≥ wrap64 (n - 1)) = false := decide_eq_false ha
  have ha2 : decide (wrap64 (n - 1) ≤ a) = false := decide_eq_false ha
  clear ha
  have H' := Aside0.mk H
  clear H
  go_enter Try.func24, Try.ntmps24
  go_wp2
  go_loopg [30] k1 (fun kq v30 w' => ∃ (col : Int) (X : List Int) (s : σ), v30 = .int .i64 col ∧ Aside0 (impl_avoiding.l0 e kq n m X a b s col = some r) ∧ Aside0 (kq ≤ k1) ∧ Aside0 (impl_avoiding.Inv St gn gl ge gx gp gr n m AX N cx (.func (.func g) #[] lb) w0 w' X s))
  case atStart => exact ⟨0, X, s, (by first | rfl | (simp; done) | (simp [*]; done)), H', ⟨Nat.le_refl _⟩, ⟨(impl_avoiding.Inv.below HIK.out INV.out (by repeat (first | exact Below.refl _ _ | apply below_alloc | apply pw_below_drewN | apply below_drew1)))⟩⟩
  case round =>
   clear H' INV HNX hzn hzl hzx0 hzx1 hzx2 hzp
   obtain ⟨col, X, s, rfl, HA, HKk, INV⟩ := hrel
   have H := HA.out
   clear HA
   have HNX := Aside0.mk (Kd.R_reads' INV.out.hx).1
   rcases gk with _ | k2
   ·simp [impl_avoiding.l0] at H
   simp only [impl_avoiding.l0] at H
   have hzn : wr.cell? ⟨gn, 0, none⟩ = some (.int .i64 n) := (blk_cell INV.out.bn 0).trans rfl
   have hzl : wr.cell? ⟨gl, 0, none⟩ = some (.int .i64 m) := (blk_cell INV.out.bl 0).trans rfl
   have hzx0 : wr.cell? ⟨gx, 0, none⟩ = some (.int .i64 n) := (blk_cell INV.out.bx 0).trans rfl
   have hzx1 : wr.cell? ⟨gx, 1, none⟩ = some (.int .i64 m) := (blk_cell INV.out.bx 1).trans rfl
   have hzx2 : wr.cell? ⟨gx, 2, none⟩ = some (.slice AX N cx) := (blk_cell INV.out.bx 2).trans rfl
   have hzp : wr.cell? ⟨gp, 0, none⟩ = some (.func (.func 24) #[] #[.pointer (some ⟨gn, 0, none⟩), .pointer (some ⟨ge, 0, none⟩), .pointer (some ⟨gx, 0, none⟩), .pointer (some ⟨gl, 0, none⟩), .pointer (some ⟨gp, 0, none⟩)]) := (blk_cell INV.out.bp 0).trans rfl
   by_cases q0 : col < m
   rotate_left
   ·rw [if_neg q0] at H
    have q01 : decide (col < m) = false := decide_eq_false q0
    clear q0
    obtain rfl := Option.some.inj H
    go_wp2
    go_ret
    exact ⟨rfl, (impl_avoiding.Inv.below HIK.out INV.out (by repeat (first | exact Below.refl _ _ | apply below_alloc | apply pw_below_drewN | apply below_drew1)))⟩
   rw [if_pos q0] at H
   have q01 : decide (col < m) = true := decide_eq_true q0
   clear q0
   obtain ⟨clr, hcl, H⟩ := Option.bind_eq_some_iff.1 H
   have A1 := Aside0.mk hcl
   have HR := Aside0.mk H
   clear hcl H
   go_wp2
   go_loopg [11, 34] k2 (fun kq v11 v34 w' => ∃ (c : Int) (cl : Bool), v11 = .bool cl ∧ v34 = .int .i64 c ∧ Aside0 (impl_avoiding.l1 kq n m X a b col c cl = some clr) ∧ Aside0 (kq ≤ k2) ∧ Aside0 (impl_avoiding.Inv St gn gl ge gx gp gr n m AX N cx (.func (.func g) #[] lb) w0 w' X s))
   case atStart => exact ⟨0, false, (by first | rfl | (simp; done) | (simp [*]; done)), (by first | rfl | (simp; done) | (simp [*]; done)), A1, ⟨Nat.le_refl _⟩, ⟨(impl_avoiding.Inv.below HIK.out INV.out (by repeat (first | exact Below.refl _ _ | apply below_alloc | apply pw_below_drewN | apply below_drew1)))⟩⟩
   case round =>
    clear A1 INV hzn hzl hzx0 hzx1 hzx2 hzp
    obtain ⟨c, cl, rfl, rfl, HA1, HK1, INV⟩ := hrel
    have H1 := HA1.out
    clear HA1
    have hzn : wr.cell? ⟨gn, 0, none⟩ = some (.int .i64 n) := (blk_cell INV.out.bn 0).trans rfl
    have hzl : wr.cell? ⟨gl, 0, none⟩ = some (.int .i64 m) := (blk_cell INV.out.bl 0).trans rfl
    have hzx0 : wr.cell? ⟨gx, 0, none⟩ = some (.int .i64 n) := (blk_cell INV.out.bx 0).trans rfl
    have hzx1 : wr.cell? ⟨gx, 1, none⟩ = some (.int .i64 m) := (blk_cell INV.out.bx 1).trans rfl
    have hzx2 : wr.cell? ⟨gx, 2, none⟩ = some (.slice AX N cx) := (blk_cell INV.out.bx 2).trans rfl
    have hzp : wr.cell? ⟨gp, 0, none⟩ = some (.func (.func 24) #[] #[.pointer (some ⟨gn, 0, none⟩), .pointer (some ⟨ge, 0, none⟩), .pointer (some ⟨gx, 0, none⟩), .pointer (some ⟨gl, 0, none⟩), .pointer (some ⟨gp, 0, none⟩)]) := (blk_cell INV.out.bp 0).trans rfl
    rcases gk with _ | k3
    ·simp [impl_avoiding.l1] at H1
    simp only [impl_avoiding.l1] at H1
    by_cases q2_ : c < a
    ·rw [if_pos q2_] at H1
     have q21 : decide (c < a) = true := decide_eq_true q2_
     clear q2_
     cases cl with
     | true =>
      rw [if_pos rfl] at H1
      have H' := Aside0.mk H1
      clear H1
      go_wp2
      go_roundg k3
      case measure => have := HK1.out; omega
      case rel => exact ⟨wrap64 (c + 1), true, (by first | rfl | (simp; done) | (simp [*]; done)), (by first | rfl | (simp; done) | (simp [*]; done)), H', ⟨by have := HK1.out; omega⟩, ⟨(impl_avoiding.Inv.below HIK.out INV.out (by repeat (first | exact Below.refl _ _ | apply below_alloc | apply pw_below_drewN | apply below_drew1)))⟩⟩
     | false =>
      rw [if_neg (by simp)] at H1
      obtain ⟨u, hu, H1⟩ := Option.bind_eq_some_iff.1 H1
      have AU := Aside0.mk hu
      clear hu
      by_cases hu0 : u = col
      ·rw [if_pos hu0] at H1
       have hu1 : decide (u = col) = true := decide_eq_true hu0
       have hu2 : (u == col) = true := by simpa using hu0
       clear hu0
       obtain ⟨v, hv, H1⟩ := Option.bind_eq_some_iff.1 H1
       have AV := Aside0.mk hv
       have H' := Aside0.mk H1
       clear hv H1
       go_wp2_with (first | (go_at_call 26; (with_reducible refine (impl_avoiding.ofN n m AX N cx X c a u _ HNX.out ?k1 HCX.out AU.out).mono ?_); (case k1 => exact (Kd.R_reads' INV.out.hx).2.2); rintro e_ w7 ⟨rfl, hb⟩; clear hzn hzl hzx0 hzx1 hzx2 hzp; have INV2 := Aside0.mk (impl_avoiding.Inv.below HIK.out INV.out hb); have hzn : w7.cell? ⟨gn, 0, none⟩ = some (.int .i64 n) := (blk_cell INV2.out.bn 0).trans rfl; have hzl : w7.cell? ⟨gl, 0, none⟩ = some (.int .i64 m) := (blk_cell INV2.out.bl 0).trans rfl; have hzx0 : w7.cell? ⟨gx, 0, none⟩ = some (.int .i64 n) := (blk_cell INV2.out.bx 0).trans rfl; have hzx1 : w7.cell? ⟨gx, 1, none⟩ = some (.int .i64 m) := (blk_cell INV2.out.bx 1).trans rfl; have hzx2 : w7.cell? ⟨gx, 2, none⟩ = some (.slice AX N cx) := (blk_cell INV2.out.bx 2).trans rfl; have hzp : w7.cell? ⟨gp, 0, none⟩ = some (.func (.func 24) #[] #[.pointer (some ⟨gn, 0, none⟩), .pointer (some ⟨ge, 0, none⟩), .pointer (some ⟨gx, 0, none⟩), .pointer (some ⟨gl, 0, none⟩), .pointer (some ⟨gp, 0, none⟩)]) := (blk_cell INV2.out.bp 0).trans rfl; clear hb) | (go_at_call 26; (with_reducible refine (impl_avoiding.ofN n m AX N cx X c b v _ HNX.out ?k1 HCX.out AV.out).mono ?_); (case k1 => exact (Kd.R_reads' INV2.out.hx).2.2); rintro e_ w8 ⟨rfl, hb⟩; clear hzn hzl hzx0 hzx1 hzx2 hzp; have INV3 := Aside0.mk (impl_avoiding.Inv.below HIK.out INV2.out hb); have hzn : w8.cell? ⟨gn, 0, none⟩ = some (.int .i64 n) := (blk_cell INV3.out.bn 0).trans rfl; have hzl : w8.cell? ⟨gl, 0, none⟩ = some (.int .i64 m) := (blk_cell INV3.out.bl 0).trans rfl; have hzx0 : w8.cell? ⟨gx, 0, none⟩ = some (.int .i64 n) := (blk_cell INV3.out.bx 0).trans rfl; have hzx1 : w8.cell? ⟨gx, 1, none⟩ = some (.int .i64 m) := (blk_cell INV3.out.bx 1).trans rfl; have hzx2 : w8.cell? ⟨gx, 2, none⟩ = some (.slice AX N cx) := (blk_cell INV3.out.bx 2).trans rfl; have hzp : w8.cell? ⟨gp, 0, none⟩ = some (.func (.func 24) #[] #[.pointer (some ⟨gn, 0, none⟩), .pointer (some ⟨ge, 0, none⟩), .pointer (some ⟨gx, 0, none⟩), .pointer (some ⟨gl, 0, none⟩), .pointer (some ⟨gp, 0, none⟩)]) := (blk_cell INV3.out.bp 0).trans rfl; clear hb))
       go_roundg k3
       case measure => have := HK1.out; omega
       case rel => exact ⟨wrap64 (c + 1), (v == col), (by first | rfl | (simp; done) | (simp [*]; done)), (by first | rfl | (simp; done) | (simp [*]; done)), H', ⟨by have := HK1.out; omega⟩, ⟨(impl_avoiding.Inv.below HIK.out INV3.out (by repeat (first | exact Below.refl _ _ | apply below_alloc | apply pw_below_drewN | apply below_drew1)))⟩⟩
      ·rw [if_neg hu0] at H1
       have hu1 : decide (u = col) = false := decide_eq_false hu0
       have hu2 : (u == col) = false := by simpa using hu0
       clear hu0
       have H' := Aside0.mk H1
       clear H1
       go_wp2_with (first | (go_at_call 26; (with_reducible refine (impl_avoiding.ofN n m AX N cx X c a u _ HNX.out ?k1 HCX.out AU.out).mono ?_); (case k1 => exact (Kd.R_reads' INV.out.hx).2.2); rintro e_ w7 ⟨rfl, hb⟩; clear hzn hzl hzx0 hzx1 hzx2 hzp; have INV2 := Aside0.mk (impl_avoiding.Inv.below HIK.out INV.out hb); have hzn : w7.cell? ⟨gn, 0, none⟩ = some (.int .i64 n) := (blk_cell INV2.out.bn 0).trans rfl; have hzl : w7.cell? ⟨gl, 0, none⟩ = some (.int .i64 m) := (blk_cell INV2.out.bl 0).trans rfl; have hzx0 : w7.cell? ⟨gx, 0, none⟩ = some (.int .i64 n) := (blk_cell INV2.out.bx 0).trans rfl; have hzx1 : w7.cell? ⟨gx, 1, none⟩ = some (.int .i64 m) := (blk_cell INV2.out.bx 1).trans rfl; have hzx2 : w7.cell? ⟨gx, 2, none⟩ = some (.slice AX N cx) := (blk_cell INV2.out.bx 2).trans rfl; have hzp : w7.cell? ⟨gp, 0, none⟩ = some (.func (.func 24) #[] #[.pointer (some ⟨gn, 0, none⟩), .pointer (some ⟨ge, 0, none⟩), .pointer (some ⟨gx, 0, none⟩), .pointer (some ⟨gl, 0, none⟩), .pointer (some ⟨gp, 0, none⟩)]) := (blk_cell INV2.out.bp 0).trans rfl; clear hb))
       go_roundg k3
       case measure => have := HK1.out; omega
       case rel => exact ⟨wrap64 (c + 1), false, (by first | rfl | (simp; done) | (simp [*]; done)), (by first | rfl | (simp; done) | (simp [*]; done)), H', ⟨by have := HK1.out; omega⟩, ⟨(impl_avoiding.Inv.below HIK.out INV2.out (by repeat (first | exact Below.refl _ _ | apply below_alloc | apply pw_below_drewN | apply below_drew1)))⟩⟩
    rw [if_neg q2_] at H1
    have q21 : decide (c < a) = false := decide_eq_false q2_
    clear q2_
    obtain rfl := Option.some.inj H1
    clear H1
    have H := HR.out
    cases cl with
    | true =>
     rw [if_pos rfl] at H
     have H' := Aside0.mk H
     clear H
     go_wp2
     go_roundg k2
     case measure => have := HKk.out; omega
     case rel => exact ⟨wrap64 (col + 1), X, s, (by first | rfl | (simp; done) | (simp [*]; done)), H', ⟨by have := HKk.out; omega⟩, ⟨(impl_avoiding.Inv.below HIK.out INV.out (by repeat (first | exact Below.refl _ _ | apply below_alloc | apply pw_below_drewN | apply below_drew1)))⟩⟩
    | false =>
     rw [if_neg (by simp)] at H
     obtain ⟨p, hp, H⟩ := Option.bind_eq_some_iff.1 H
     have A3 := Aside0.mk hp
     clear hp
     by_cases p1 : 0 ≤ p
     rotate_left
     ·rw [if_neg p1] at H; cases H
     rw [if_pos p1] at H
     by_cases p2 : p < (X.length : Int)
     rotate_left
     ·rw [if_neg p2] at H; cases H
     rw [if_pos p2] at H
     obtain ⟨Y, hY⟩ : ∃ Y_ : List Int, Y_ = X.set p.toNat col := ⟨_, rfl⟩
     rw [← hY] at H
     have NY := Aside0.mk hY
     clear hY
     obtain ⟨g_, c_, e_, gb_, gl_, cl_, HG_⟩ := Kd.R_form INV.out.hx (by omega)
     injection e_ with e1_ e2_ e3_
     subst e1_
     subst e3_
     have eg_ : gr = g_ := (INV.out.hx.1 g_ rfl).symm
     subst eg_
     clear gb_ gl_ HG_ e2_ cl_
     rw [← HNX.out] at p2
     replace p1 := eq_true p1
     replace p2 := eq_true p2
     obtain ⟨q, hq, H⟩ := Option.bind_eq_some_iff.1 H
     have A4 := Aside0.mk hq
     clear hq
     go_wp2
     refine start_ (n := 9) (S := fun w' => w'.cell? ⟨gn, 0, none⟩ = some (.int .i64 n) ∧ w'.cell? ⟨gx, 2, none⟩ = some (.slice (some ⟨gr, 0, none⟩) N cx)) (ds := [8]) #[false, false, false, false, false, false, false, false, false] (by kernel_rfl) rfl rfl ⟨(blk_cell (blk_drew INV.out.bn) 0).trans rfl, (blk_cell (blk_drew INV.out.bx) 2).trans rfl⟩ (fun hHeld => ?_)
     refine with_tabW impl_avoiding.tab15 impl_avoiding.bits15 (fun HT_ HW_ => ?_)
     have ID := Aside0.mk (impl_avoiding.Inv.below HIK.out INV.out (below_drew1 (Below.refl _ _)))
     clear hzn hzl hzx0 hzx1 hzx2 hzp INV
     generalize wr.drew = wd at hHeld ID ⊢
     refine pure_ (i := 0) (N := some 56) (v := ?_) (a' := ?_) #[true, false, false, false, false, false, false, false, false] rfl rfl (any_of HT_.out (by kernel_rfl)) (fun _ _ _ h => h) (Or.inl ⟨by rfl, ?_⟩) ?_ ?_
     rotate_left
     ·intro w'
      go_simp
      with_reducible rfl
     rotate_left
     ·simp only [Act.put, List.setIfInBounds_toArray, List.set_cons_zero, List.set_cons_succ, i64_w, i32_w]
      rfl
     refine pure_ (i := 3) (N := some 59) (v := ?_) (a' := ?_) #[true, false, false, true, false, false, false, false, false] rfl rfl (any_of HT_.out (by kernel_rfl)) (fun _ _ _ h => h) (Or.inl ⟨by rfl, ?_⟩) ?_ ?_
     rotate_left
     ·intro w'
      go_simp
      with_reducible rfl
     rotate_left
     ·simp only [Act.put, List.setIfInBounds_toArray, List.set_cons_zero, List.set_cons_succ, i64_w, i32_w]
      rfl
     refine pure_ (i := 4) (N := some 60) (v := ?_) (a' := ?_) #[true, false, false, true, true, false, false, false, false] rfl rfl (any_of HT_.out (by kernel_rfl)) (fun _ _ _ h => h) (Or.inl ⟨by rfl, ?_⟩) ?_ ?_
     rotate_left
     ·intro w'
      go_simp
      with_reducible rfl
     rotate_left
     ·simp only [Act.put, List.setIfInBounds_toArray, List.set_cons_zero, List.set_cons_succ, i64_w, i32_w]
      rfl
     refine pure_ (i := 6) (N := some 62) (v := ?_) (a' := ?_) #[true, false, false, true, true, false, true, false, false] rfl rfl (any_of HT_.out (by kernel_rfl)) (fun _ _ _ h => h) (Or.inl ⟨by rfl, ?_⟩) ?_ ?_
     rotate_left
     ·intro w'
      go_simp
      with_reducible rfl
     rotate_left
     ·simp only [Act.put, List.setIfInBounds_toArray, List.set_cons_zero, List.set_cons_succ, i64_w, i32_w]
      rfl
     refine take_ (i := 1) (N := some 57) (v := ?_) (a' := ?_) #[true, true, false, true, true, false, true, false, false] rfl rfl (take_ofW HT_.out HW_.out (by kernel_rfl)) (fun _ _ _ h => h) (Or.inl ⟨by rfl, ?_⟩) hHeld ?_ ?_
     rotate_left
     ·rintro w' ⟨s0_, s1_⟩
      go_simp
      with_reducible rfl
     rotate_left
     ·simp only [Act.put, List.setIfInBounds_toArray, List.set_cons_zero, List.set_cons_succ, i64_w, i32_w]
      rfl
     refine take_ (i := 2) (N := some 58) (v := ?_) (a' := ?_) #[true, true, true, true, true, false, true, false, false] rfl rfl (take_ofW HT_.out HW_.out (by kernel_rfl)) (fun _ _ _ h => h) (Or.inl ⟨by rfl, ?_⟩) hHeld ?_ ?_
     rotate_left
     ·rintro w' ⟨s0_, s1_⟩
      go_simp
      with_reducible rfl
     rotate_left
     ·simp only [Act.put, List.setIfInBounds_toArray, List.set_cons_zero, List.set_cons_succ, i64_w, i32_w]
      rfl
     refine one_ (i := 5) (N := some 61) #[true, true, true, true, true, true, true, false, false] rfl rfl (one_of HT_.out (by kernel_rfl)) (by decide) (fun K hK => ?_)
     refine goes_ Try.func27 (by kernel_rfl) rfl #[.int .i64 n, .int .i64 a, .int .i64 b] (by rfl) rfl rfl (by (try simp only [List.map_toArray, List.map_cons, List.map_nil]); first | done | rfl) ?_
     with_reducible refine (impl_place.calls n a b p _ A3.out).mono ?_
     rintro e_ w4 ⟨rfl, hb⟩
     refine ⟨_, rfl, ?_⟩
     have I4 := Aside0.mk (impl_avoiding.Inv.below HIK.out ID.out hb)
     clear hb
     obtain ⟨hxr_, hfr_⟩ := Kd.R_celln 0 I4.out.hx p (of_eq_true p1) (of_eq_true p2)
     refine hK.out _ _ ⟨(blk_cell I4.out.bn 0).trans rfl, (blk_cell I4.out.bx 2).trans rfl⟩ (fun hHeld => ?_)
     clear hK K
     refine norm_ (a' := ?_) ?_ ?_
     rotate_left
     ·show Act.put _ (some 61) _ = _
      simp only [Act.put, List.setIfInBounds_toArray, List.set_cons_zero, List.set_cons_succ, i64_w, i32_w]
      rfl
     refine pure_ (i := 7) (N := some 63) (v := ?_) (a' := ?_) #[true, true, true, true, true, true, true, true, false] rfl rfl (any_of HT_.out (by kernel_rfl)) (fun _ _ _ h => h) (Or.inl ⟨by rfl, ?_⟩) ?_ ?_
     rotate_left
     ·intro w'
      go_simp
      with_reducible rfl
     rotate_left
     ·simp only [Act.put, List.setIfInBounds_toArray, List.set_cons_zero, List.set_cons_succ, i64_w, i32_w]
      rfl
     refine last_ (i := 8) (N := none) #[true, true, true, true, true, true, true, true, true] rfl rfl (one_of HT_.out (by kernel_rfl)) (by decide) (fun K hK => ?_)
     refine skip_ (w1 := (w4.setCell ⟨gr, (p : Int).toNat, none⟩ (.int .i64 col))) (by rfl) rfl ?_ ?_
     ·first | (go_simp; done) | (go_simp; rfl)
     refine hK.out _ _ ?_
     clear hK K
     refine done_ (done_of HT_.out (by kernel_rfl)) ?_
     have KS5 : Kept w4 (w4.setCell ⟨gr, (p : Int).toNat, none⟩ (.int .i64 col)) (fun k_ => k_ = gr) := Kept.setCell (Kept.refl w4 _) (.inl (by rfl)) _
     have HX5 : Kd.R (Kd.int .i64) 3 (w4.setCell ⟨gr, (p : Int).toNat, none⟩ (.int .i64 col)) w0.heap.size (fun k_ => k_ = gr) (.slice (some ⟨gr, 0, none⟩) N cx) Y := by rw [NY.out]; exact Kd.R_putn I4.out.hx (p : Int) col
     have I5 := Aside0.mk (impl_avoiding.Inv.kept I4.out KS5 ⟨HN.out.1, HN.out.2.1, HN.out.2.2.1, HN.out.2.2.2.1, HN.out.2.2.2.2⟩ HX5 (HIK.out s _ _ I4.out.st KS5) (below_set I4.out.hb HGR.out))
     clear KS5 HX5 hxr_ hfr_ hHeld HT_ HW_ ID I4
     generalize (w4.setCell ⟨gr, (p : Int).toNat, none⟩ (.int .i64 col)) = w5 at I5 ⊢
     have hzn : w5.cell? ⟨gn, 0, none⟩ = some (.int .i64 n) := (blk_cell I5.out.bn 0).trans rfl
     have hzl : w5.cell? ⟨gl, 0, none⟩ = some (.int .i64 m) := (blk_cell I5.out.bl 0).trans rfl
     have hzx0 : w5.cell? ⟨gx, 0, none⟩ = some (.int .i64 n) := (blk_cell I5.out.bx 0).trans rfl
     have hzx1 : w5.cell? ⟨gx, 1, none⟩ = some (.int .i64 m) := (blk_cell I5.out.bx 1).trans rfl
     have hzx2 : w5.cell? ⟨gx, 2, none⟩ = some (.slice (some ⟨gr, 0, none⟩) N cx) := (blk_cell I5.out.bx 2).trans rfl
     have hzp : w5.cell? ⟨gp, 0, none⟩ = some (.func (.func 24) #[] #[.pointer (some ⟨gn, 0, none⟩), .pointer (some ⟨ge, 0, none⟩), .pointer (some ⟨gx, 0, none⟩), .pointer (some ⟨gl, 0, none⟩), .pointer (some ⟨gp, 0, none⟩)]) := (blk_cell I5.out.bp 0).trans rfl
     obtain ⟨qb, qX, qs⟩ := q
     cases qb with
     | false =>
      rw [if_neg (by simp)] at H
      obtain rfl := Option.some.inj H
      go_wp2_with (first | ((with_reducible refine gate_dst (N := 68) rfl ?_); refine impl_avoiding.goesVL_ (some 68) rfl rfl Try.func24 (by kernel_rfl) rfl #[.int .i64 a, .int .i64 (wrap64 (b + 1)), .pointer (some ⟨gn, 0, none⟩), .pointer (some ⟨ge, 0, none⟩), .pointer (some ⟨gx, 0, none⟩), .pointer (some ⟨gl, 0, none⟩), .pointer (some ⟨gp, 0, none⟩)] rfl rfl (by simp [Act.eval]) ?_; refine (IH.out k2 (by have := HKk.out; omega) n m (some ⟨gr, 0, none⟩) N cx Y a (wrap64 (b + 1)) s _ _ I5.out A4.out).mono ?_; rintro e_ w6 ⟨rfl, hi6⟩; refine ⟨_, rfl, ?_⟩; have I6 := Aside0.mk hi6; clear hi6))
      go_ret
      exact ⟨rfl, (impl_avoiding.Inv.below HIK.out I6.out (by repeat (first | exact Below.refl _ _ | apply below_alloc | apply pw_below_drewN | apply below_drew1)))⟩
     | true =>
      rw [if_pos rfl] at H
      have H' := Aside0.mk H
      clear H
      go_wp2_with (first | ((with_reducible refine gate_dst (N := 68) rfl ?_); refine impl_avoiding.goesVL_ (some 68) rfl rfl Try.func24 (by kernel_rfl) rfl #[.int .i64 a, .int .i64 (wrap64 (b + 1)), .pointer (some ⟨gn, 0, none⟩), .pointer (some ⟨ge, 0, none⟩), .pointer (some ⟨gx, 0, none⟩), .pointer (some ⟨gl, 0, none⟩), .pointer (some ⟨gp, 0, none⟩)] rfl rfl (by simp [Act.eval]) ?_; refine (IH.out k2 (by have := HKk.out; omega) n m (some ⟨gr, 0, none⟩) N cx Y a (wrap64 (b + 1)) s _ _ I5.out A4.out).mono ?_; rintro e_ w6 ⟨rfl, hi6⟩; refine ⟨_, rfl, ?_⟩; have I6 := Aside0.mk hi6; clear hi6))
      go_roundg k2
      case measure => have := HKk.out; omega
      case rel => exact ⟨wrap64 (col + 1), qX, qs, (by first | rfl | (simp; done) | (simp [*]; done)), H', ⟨by have := HKk.out; omega⟩, ⟨(impl_avoiding.Inv.below HIK.out I6.out (by repeat (first | exact Below.refl _ _ | apply below_alloc | apply pw_below_drewN | apply below_drew1)))⟩⟩
theorem impl_avoiding.two_ {P : Program} {md : Region.Mode} {ops : Array Oper} {Q : Exit → Act → World → Prop} {S : World → Prop} {ds : List Nat} {i j : Nat} {Ni Nj : Option Tmp} {oi oj : Oper} {fuel : Nat} {l : Array Bool} {a : Act} {w : World} (li lj : Array Bool) (hi : ops[i]? = some oi) (hj : ops[j]? = some oj) (hNi : oi.dst = Ni) (hNj : oj.dst = Nj) (hc : Region.ready md ops l = [i, j]) (hli : l.setIfInBounds i true = li) (hlj : l.setIfInBounds j true = lj) (hdi : i ∉ ds) (hdj : j ∉ ds)
  (h1 : ∀ K : Act → World → Prop, Shut (∀ a' w', S w' → (S w' → wpAnyLast P md ops Q S ds fuel li a' w') → K a' w') → if Region.wanted oi (yielded ops a.tmps) = true then Oper.wp P oi a w K Q else K (a.put Ni undef) w)
  (h2 : ∀ K : Act → World → Prop, Shut (∀ a' w', S w' → (S w' → wpAnyLast P md ops Q S ds fuel lj a' w') → K a' w') → if Region.wanted oj (yielded ops a.tmps) = true then Oper.wp P oj a w K Q else K (a.put Nj undef) w) : wpAnyLast P md ops Q S ds (fuel + 1) l a w := by
 subst hNi
 subst hNj
 subst hli
 subst hlj
 exact wpAnyLast_ready hc (by simp) (AllReadyL.cons hi hdi (fun K hK => h1 K hK) (AllReadyL.cons hj hdj (fun K hK => h2 K hK) AllReadyL.nil))
theorem impl_avoiding.run_store_func (P : Program) (w : World) (a : Addr) (m : Mode) (f : Fn) (rc lb : Array Value) : (store a (.func f rc lb) m).run P w = stored P w a (.func f rc lb) m := run_store P w a _ m rfl
attribute [local go_sem] impl_avoiding.run_store_func
def impl_avoiding.f {σ : Type} (e : σ → List Int → σ × Bool) (k : Nat) (n m : Int) (s : σ) : Option (Bool × σ) := (impl_choose.f k n 2).bind fun z => if 0 ≤ z then (if z.toNat ≤ 35184372088832 then ((impl_avoiding.p e k n m (List.replicate z.toNat 0) 0 1 s).bind fun q => some (q.1, q.2.2)) else none) else none
theorem impl_avoiding.monof {σ : Type} (e : σ → List Int → σ × Bool) : ∀ n m s k, LeO (impl_avoiding.f e k n m s) (impl_avoiding.f e (k + 1) n m s) := by
 intro n m s k
 unfold impl_avoiding.f
 exact LeO.bind (impl_choose.mono _ _ _) (fun _ => LeO.ite (LeO.ite (LeO.bind ((impl_avoiding.mono_l e _).1 _ _ _ _ _ _) (fun _ => LeO.refl _)) (LeO.refl _)) (LeO.refl _))
def impl_avoiding.T1 : Bool × List (List Nat × List Nat) := (true, [([], []), ([], []), ([], []), ([2], [2]), ([3, 3], [3]), ([0, 1, 4], [0, 1, 4]), ([], []), ([6, 5, 3, 0, 1, 2, 3, 4, 5, 6], [5, 6])])
def impl_avoiding.B1 : List Nat := [0, 0, 0, 4, 12, 31, 0, 127]
theorem impl_avoiding.tab1 : rtab .any (opsOf Try.f15 1) = impl_avoiding.T1 := by kernel_rfl
theorem impl_avoiding.bits1 : waitsOk impl_avoiding.T1.2 impl_avoiding.B1 = true := by kernel_rfl
theorem below_of3a {w w3 w8 : World} (h : Below w.heap.size w w3) (h2 : Below w3.heap.size w3 w8) : Below w.heap.size w w8 := below_step h h2
set_option maxHeartbeats 16000000 in
set_option maxRecDepth 100000 in
theorem impl_avoiding.calls {σ : Type} (St : Nat → σ → World → Prop) (Sg : Nat → Prop) (e : σ → List Int → σ × Bool) (g : FuncId) (fn : Func) (lb : Array Value) (w0 : World) (hfn : Try.prog.funcs[g]? = some fn) (hnm : (fn.name == "runtime.NumGoroutine") = false) (hbd : fn.body.isSome = true)
  (hik : ∀ gr s W W', ¬ Sg gr → St gr s W → Kept W W' (fun k_ => k_ = gr) → St gr s W') (hsl : ∀ gr s W, St gr s W → ∀ k_, Sg k_ → k_ < W.heap.size)
  (hE : ∀ gr, ¬ Sg gr → ∀ (W : World) (A : Option Addr) (c : Nat) (o : List Int) (s : σ), St gr s W → Below w0.heap.size w0 W → Kd.R (Kd.int .i64) 3 W w0.heap.size (fun k_ => k_ ≠ gr ∧ ¬ Sg k_) (.slice A o.length c) o → Calls Try.prog g (#[.slice A o.length c] ++ lb) W fun e' w' => e' = .returned (.bool (e s o).2) ∧ St gr (e s o).1 w' ∧ Below w0.heap.size w0 w' ∧ Kept W w' Sg) :
  ∀ (k : Nat) (n m : Int) (s : σ) (r : Bool × σ) (w : World), Below w0.heap.size w0 w → (∀ k_, w.heap.size ≤ k_ → ¬ Sg k_) → (∀ gr W, w.heap.size ≤ gr → Below w.heap.size w W → St gr s W) → impl_avoiding.f e k n m s = some r →
  Calls Try.prog 15 #[.int .i64 n, .int .i64 m, .func (.func g) #[] lb] w fun e' w' => e' = .returned (.bool r.1) ∧ (∃ gr, St gr r.2 w') ∧ Below w0.heap.size w0 w' := by
 have huP := Try.underlying27
 have HFN := Aside0.mk hfn
 have HNM := Aside0.mk hnm
 have HBD := Aside0.mk hbd
 have HIK := Aside0.mk hik
 have HSL := Aside0.mk hsl
 have HE := Aside0.mk hE
 clear hfn hnm hbd hik hsl hE
 intro k n m s r w hB hsg hst h
 have HW0 := Aside0.mk hB
 have HSG := Aside0.mk hsg
 have HST := Aside0.mk hst
 have HB0 := Aside0.mk (Below.refl w.heap.size w)
 clear hB hsg hst
 unfold impl_avoiding.f at h
 obtain ⟨z, hz, h⟩ := Option.bind_eq_some_iff.1 h
 have A1 := Aside0.mk hz
 clear hz
 by_cases c0 : 0 ≤ z
 rotate_left
 ·rw [if_neg c0] at h; cases h
 rw [if_pos c0] at h
 by_cases c1 : z.toNat ≤ 35184372088832
 rotate_left
 ·rw [if_neg c1] at h; cases h
 rw [if_pos c1] at h
 obtain ⟨X, hX⟩ : ∃ X_ : List Int, X_ = List.replicate z.toNat 0 := ⟨_, rfl⟩
 rw [← hX] at h
 have NX := Aside0.mk hX
 clear hX
 have Z0 := Aside0.mk c0
 have Z1 := Aside0.mk (show z.toNat * 8 ≤ 281474976710656 by omega)
 clear c0 c1
 obtain ⟨q, hq, h⟩ := Option.bind_eq_some_iff.1 h
 have A2 := Aside0.mk hq
 clear hq
 obtain rfl := Option.some.inj h
 clear h
 go_enter Try.func15, Try.ntmps15
 go_wp2_with (first | ((with_reducible refine gate_dst (N := 3) rfl ?_); refine box_event ?hg (N := 3) ?hd (cs := #[.int .i64 n]) (t := 3) ?hr ?_; (case hd => rfl); (case hg => rfl); (case hr => first | (go_simp; done) | (go_simp; rfl)); intro gn hg w1 hbox hb; have GN := Aside0.mk (show w.heap.size ≤ gn from by rw [hg]; exact below_size (by repeat (first | (with_reducible first | exact HB0.out | apply below_alloc | apply pw_below_drewN | apply below_drew1) | exact HB0.out))); have HB1 := Aside0.mk (below_step (by repeat (first | (with_reducible first | exact HB0.out | apply below_alloc | apply pw_below_drewN | apply below_drew1) | exact HB0.out)) hb : Below w.heap.size w w1); have BN1 := Aside0.mk hbox; clear hb hbox hg) | ((with_reducible refine gate_dst (N := 4) rfl ?_); refine box_event ?hg (N := 4) ?hd (cs := #[.int .i64 m]) (t := 3) ?hr ?_; (case hd => rfl); (case hg => rfl); (case hr => first | (go_simp; done) | (go_simp; rfl)); intro gl hg w2 hbox hb; have GL := Aside0.mk (show w.heap.size ≤ gl from by rw [hg]; exact below_size (by repeat (first | (with_reducible first | exact HB1.out | apply below_alloc | apply pw_below_drewN | apply below_drew1) | exact HB1.out))); have BN2 := Aside0.mk (blk_below (g := gn) (o := (.cells #[.int .i64 n] 3 (0, 0))) (by (with_reducible repeat (first | refine blk_drewN ?_ _ | refine blk_drew ?_ | refine blk_alloc ?_ _)); exact BN1.out) hb); have HB2 := Aside0.mk (below_step (by repeat (first | (with_reducible first | exact HB1.out | apply below_alloc | apply pw_below_drewN | apply below_drew1) | exact HB1.out)) hb : Below w.heap.size w w2); have BL2 := Aside0.mk hbox; clear hb hbox hg) | ((with_reducible refine gate_dst (N := 5) rfl ?_); refine box_event ?hg (N := 5) ?hd (cs := #[.func (.func g) #[] lb]) (t := 36) ?hr ?_; (case hd => rfl); (case hg => rfl); (case hr => first | (go_simp; done) | (go_simp; rfl)); intro ge hg w3 hbox hb; have GE := Aside0.mk (show w.heap.size ≤ ge from by rw [hg]; exact below_size (by repeat (first | (with_reducible first | exact HB2.out | apply below_alloc | apply pw_below_drewN | apply below_drew1) | exact HB2.out))); have BN3 := Aside0.mk (blk_below (g := gn) (o := (.cells #[.int .i64 n] 3 (0, 0))) (by (with_reducible repeat (first | refine blk_drewN ?_ _ | refine blk_drew ?_ | refine blk_alloc ?_ _)); exact BN2.out) hb); have BL3 := Aside0.mk (blk_below (g := gl) (o := (.cells #[.int .i64 m] 3 (0, 0))) (by (with_reducible repeat (first | refine blk_drewN ?_ _ | refine blk_drew ?_ | refine blk_alloc ?_ _)); exact BL2.out) hb); have HB3 := Aside0.mk (below_step (by repeat (first | (with_reducible first | exact HB2.out | apply below_alloc | apply pw_below_drewN | apply below_drew1) | exact HB2.out)) hb : Below w.heap.size w w3); have BE3 := Aside0.mk hbox; clear hb hbox hg))
 refine start_ (n := 8) (S := fun w' => w'.cell? ⟨gn, 0, none⟩ = some (.int .i64 n) ∧ w'.cell? ⟨gl, 0, none⟩ = some (.int .i64 m)) (ds := [7]) #[false, false, false, false, false, false, false, false] (by kernel_rfl) rfl rfl ⟨(blk_cell (blk_drew BN3.out) 0).trans rfl, (blk_cell (blk_drew BL3.out) 0).trans rfl⟩ (fun hHeld => ?_)
 refine with_tabW impl_avoiding.tab1 impl_avoiding.bits1 (fun HT_ HW_ => ?_)
 have BNd := Aside0.mk (blk_drew BN3.out)
 have BLd := Aside0.mk (blk_drew BL3.out)
 have BEd := Aside0.mk (blk_drew BE3.out)
 have HBd := Aside0.mk (below_drew1 HB3.out)
 generalize w3.drew = wd at hHeld BNd BLd BEd HBd ⊢
 refine take_ (i := 0) (N := some 9) (v := ?_) (a' := ?_) #[true, false, false, false, false, false, false, false] rfl rfl (take_ofW HT_.out HW_.out (by kernel_rfl)) (fun _ _ _ h => h) (Or.inl ⟨by rfl, ?_⟩) hHeld ?_ ?_
 rotate_left
 ·rintro w' ⟨s0_, s1_⟩
  go_simp
  with_reducible rfl
 rotate_left
 ·simp only [Act.put, List.setIfInBounds_toArray, List.set_cons_zero, List.set_cons_succ, i64_w, i32_w]
  rfl
 refine take_ (i := 1) (N := some 10) (v := ?_) (a' := ?_) #[true, true, false, false, false, false, false, false] rfl rfl (take_ofW HT_.out HW_.out (by kernel_rfl)) (fun _ _ _ h => h) (Or.inl ⟨by rfl, ?_⟩) hHeld ?_ ?_
 rotate_left
 ·rintro w' ⟨s0_, s1_⟩
  go_simp
  with_reducible rfl
 rotate_left
 ·simp only [Act.put, List.setIfInBounds_toArray, List.set_cons_zero, List.set_cons_succ, i64_w, i32_w]
  rfl
 refine take_ (i := 2) (N := some 11) (v := ?_) (a' := ?_) #[true, true, true, false, false, false, false, false] rfl rfl (take_ofW HT_.out HW_.out (by kernel_rfl)) (fun _ _ _ h => h) (Or.inl ⟨by rfl, ?_⟩) hHeld ?_ ?_
 rotate_left
 ·rintro w' ⟨s0_, s1_⟩
  go_simp
  with_reducible rfl
 rotate_left
 ·simp only [Act.put, List.setIfInBounds_toArray, List.set_cons_zero, List.set_cons_succ, i64_w, i32_w]
  rfl
 refine impl_avoiding.two_ (i := 3) (j := 6) (Ni := some 12) (Nj := some 7) #[true, true, true, true, false, false, false, false] #[true, true, true, false, false, false, true, false] rfl rfl rfl rfl (by kernel_rfl) rfl rfl (by decide) (by decide) (fun K hK => ?_) (fun K hK => ?_)
 ·refine goes_ Try.func23 (by kernel_rfl) rfl #[.int .i64 n, .int .i64 2] (by rfl) rfl rfl (by (try simp only [List.map_toArray, List.map_cons, List.map_nil]); first | done | rfl) ?_
  with_reducible refine (impl_choose.calls k n 2 z _ A1.out).mono ?_
  rintro e_ w' ⟨rfl, ⟨nd, rfl⟩⟩
  refine ⟨_, rfl, ?_⟩
  obtain ⟨w4, hw4⟩ : ∃ y_ : World, wd.drewN nd = y_ := ⟨_, rfl⟩
  have hb : Below wd.heap.size wd w4 := hw4 ▸ pw_below_drewN (Below.refl _ _) nd
  rw [hw4]
  clear hw4
  have BN4 := Aside0.mk (blk_below (g := gn) (o := (.cells #[.int .i64 n] 3 (0, 0))) BNd.out hb)
  have BL4 := Aside0.mk (blk_below (g := gl) (o := (.cells #[.int .i64 m] 3 (0, 0))) BLd.out hb)
  have BE4 := Aside0.mk (blk_below (g := ge) (o := (.cells #[.func (.func g) #[] lb] 36 (0, 0))) BEd.out hb)
  have HB4 := Aside0.mk (below_step HBd.out hb : Below w.heap.size w w4)
  clear hb
  refine hK.out _ _ ⟨(blk_cell BN4.out 0).trans rfl, (blk_cell BL4.out 0).trans rfl⟩ (fun hHeld => ?_)
  clear hK K
  refine norm_ (a' := ?_) ?_ ?_
  rotate_left
  ·show Act.put _ (some 12) _ = _
   simp only [Act.put, List.setIfInBounds_toArray, List.set_cons_zero, List.set_cons_succ, i64_w, i32_w]
   rfl
  refine impl_avoiding.two_ (i := 4) (j := 6) (Ni := some 13) (Nj := some 7) #[true, true, true, true, true, false, false, false] #[true, true, true, true, false, false, true, false] rfl rfl rfl rfl (by kernel_rfl) rfl rfl (by decide) (by decide) (fun K hK => ?_) (fun K hK => ?_)
  ·refine Kd.R_make_step (Kd.int .i64) _ 3 (by rfl) (N := 13) rfl 25 _ _ rfl z rfl rfl Try.underlying25 (.int .i64 0) 8 info3 rfl (by decide) (by omega) 0 (ok := fun _ => True) (okp := fun _ => True) rfl (fun _ hk => hk) trivial Z0.out Z1.out (Below.refl _ _) (Nat.le_refl _) ?_
   intro v13 w5 ho hb hg_ hnew_
   clear hg_
   rw [← NX.out] at ho
   obtain ⟨gr, hgr_, hgs_⟩ := hnew_
   have GR := Aside0.mk (show w.heap.size ≤ gr from Nat.le_trans HB4.out.size hgs_)
   have NNR := Aside0.mk (show gn ≠ gr from Nat.ne_of_lt (Nat.lt_of_lt_of_le (blk_lt BN4.out) hgs_))
   have NLR := Aside0.mk (show gl ≠ gr from Nat.ne_of_lt (Nat.lt_of_lt_of_le (blk_lt BL4.out) hgs_))
   have NER := Aside0.mk (show ge ≠ gr from Nat.ne_of_lt (Nat.lt_of_lt_of_le (blk_lt BE4.out) hgs_))
   have HGL5 := Aside0.mk ((Kd.R_bound ho).1 gr hgr_).2.2.1
   have HX5 := Aside0.mk (show Kd.R (Kd.int .i64) 3 w5 w.heap.size (fun k_ => k_ = gr) v13 X from Kd.R_of_own (ok := fun k_ => k_ = gr) (Kd.own_of_R (Kd.R_lower ho HB4.out.size)) (fun k_ hk_ => Option.some.inj (hk_.symm.trans hgr_)))
   have BN5 := Aside0.mk (blk_below (g := gn) (o := (.cells #[.int .i64 n] 3 (0, 0))) BN4.out hb)
   have BL5 := Aside0.mk (blk_below (g := gl) (o := (.cells #[.int .i64 m] 3 (0, 0))) BL4.out hb)
   have BE5 := Aside0.mk (blk_below (g := ge) (o := (.cells #[.func (.func g) #[] lb] 36 (0, 0))) BE4.out hb)
   have HB5 := Aside0.mk (below_step HB4.out hb : Below w.heap.size w w5)
   obtain ⟨AX, cx, ev_⟩ := Kd.R_slice HX5.out
   subst ev_
   clear ho hb hgr_ hgs_
   refine hK.out _ _ ⟨(blk_cell BN5.out 0).trans rfl, (blk_cell BL5.out 0).trans rfl⟩ (fun hHeld => ?_)
   clear hK K
   refine norm_ (a' := ?_) ?_ ?_
   rotate_left
   ·show Act.put _ (some 13) _ = _
    simp only [Act.put, List.setIfInBounds_toArray, List.set_cons_zero, List.set_cons_succ, i64_w, i32_w]
    rfl
   refine pure_ (i := 5) (N := some 14) (v := ?_) (a' := ?_) #[true, true, true, true, true, true, false, false] rfl rfl (any_of HT_.out (by kernel_rfl)) (fun _ _ _ h => h) (Or.inl ⟨by rfl, ?_⟩) ?_ ?_
   rotate_left
   ·intro w'
    go_simp
    with_reducible rfl
   rotate_left
   ·simp only [Act.put, List.setIfInBounds_toArray, List.set_cons_zero, List.set_cons_succ, i64_w, i32_w]
    rfl
   refine one_ (i := 6) (N := some 7) #[true, true, true, true, true, true, true, false] rfl rfl (one_of HT_.out (by kernel_rfl)) (by decide) (fun K hK => ?_)
   refine box_step (by rfl) (N := 7) rfl (cs := #[.int .i64 0, .int .i64 0, .slice none 0 0]) (t := 27) ?hr ?_
   case hr => first | (go_simp; done) | (go_simp; rfl)
   intro gx hg w6 hbox hb
   have GX := Aside0.mk (show w.heap.size ≤ gx from by rw [hg]; exact HB5.out.size)
   have NNX := Aside0.mk (show gn ≠ gx from by rw [hg]; exact Nat.ne_of_lt (blk_lt BN5.out))
   have NLX := Aside0.mk (show gl ≠ gx from by rw [hg]; exact Nat.ne_of_lt (blk_lt BL5.out))
   have NEX := Aside0.mk (show ge ≠ gx from by rw [hg]; exact Nat.ne_of_lt (blk_lt BE5.out))
   have NXR := Aside0.mk (show gx ≠ gr from by rw [hg]; exact Nat.ne_of_gt HGL5.out)
   have BX6 := Aside0.mk (show w6.heap[gx]? = some (.cells #[.int .i64 0, .int .i64 0, .slice none 0 0] 27 (0, 0)) from hbox)
   have BN6 := Aside0.mk (blk_below (g := gn) (o := (.cells #[.int .i64 n] 3 (0, 0))) BN5.out hb)
   have BL6 := Aside0.mk (blk_below (g := gl) (o := (.cells #[.int .i64 m] 3 (0, 0))) BL5.out hb)
   have BE6 := Aside0.mk (blk_below (g := ge) (o := (.cells #[.func (.func g) #[] lb] 36 (0, 0))) BE5.out hb)
   have HB6 := Aside0.mk (below_step HB5.out hb : Below w.heap.size w w6)
   have HX6 := Aside0.mk (Kd.R_below HX5.out hb)
   have HGL6 := Aside0.mk (Nat.lt_of_lt_of_le HGL5.out hb.size)
   clear hb hbox hg
   refine hK.out _ _ ⟨(blk_cell BN6.out 0).trans rfl, (blk_cell BL6.out 0).trans rfl⟩ (fun hHeld => ?_)
   clear hK K
   refine norm_ (a' := ?_) ?_ ?_
   rotate_left
   ·show Act.put _ (some 7) _ = _
    simp only [Act.put, List.setIfInBounds_toArray, List.set_cons_zero, List.set_cons_succ, i64_w, i32_w]
    rfl
   have hzx0 : w6.cell? ⟨gx, 0, none⟩ = some (.int .i64 0) := (blk_cell BX6.out 0).trans rfl
   have hzx1 : w6.cell? ⟨gx, 1, none⟩ = some (.int .i64 0) := (blk_cell BX6.out 1).trans rfl
   have hzx2 : w6.cell? ⟨gx, 2, none⟩ = some (.slice none 0 0) := (blk_cell BX6.out 2).trans rfl
   have hfx0 := blk_frozen BX6.out 0
   have hfx1 := blk_frozen BX6.out 1
   have hfx2 := blk_frozen BX6.out 2
   refine last_ (i := 7) (N := none) #[true, true, true, true, true, true, true, true] rfl rfl (one_of HT_.out (by kernel_rfl)) (by decide) (fun K hK => ?_)
   refine skip_ (w1 := (((w6.setCell ⟨gx, 0, none⟩ (.int .i64 n)).setCell ⟨gx, 1, none⟩ (.int .i64 m)).setCell ⟨gx, 2, none⟩ (.slice AX X.length cx))) (by rfl) rfl ?_ ?_
   ·first | (go_simp; done) | (go_simp; rfl)
   refine hK.out _ _ ?_
   clear hK K
   refine done_ (done_of HT_.out (by kernel_rfl)) ?_
   clear hzx0 hzx1 hzx2 hfx0 hfx1 hfx2 hHeld HT_ HW_
   have KS := Aside0.mk (show Kept w6 (((w6.setCell ⟨gx, 0, none⟩ (.int .i64 n)).setCell ⟨gx, 1, none⟩ (.int .i64 m)).setCell ⟨gx, 2, none⟩ (.slice AX X.length cx)) (fun k_ => k_ = gx) from Kept.setCell (Kept.setCell (Kept.setCell (Kept.refl _ _) (.inl (by rfl)) _) (.inl (by rfl)) _) (.inl (by rfl)) _)
   have BXf := Aside0.mk (show ((((w6.setCell ⟨gx, 0, none⟩ (.int .i64 n)).setCell ⟨gx, 1, none⟩ (.int .i64 m)).setCell ⟨gx, 2, none⟩ (.slice AX X.length cx))).heap[gx]? = some (.cells #[.int .i64 n, .int .i64 m, .slice AX X.length cx] 27 (0, 0)) from blk_put (blk_set (blk_set BX6.out 0 _) 1 _) 2 _ rfl)
   have HBf := Aside0.mk (show Below w.heap.size w (((w6.setCell ⟨gx, 0, none⟩ (.int .i64 n)).setCell ⟨gx, 1, none⟩ (.int .i64 m)).setCell ⟨gx, 2, none⟩ (.slice AX X.length cx)) from below_set (below_set (below_set HB6.out GX.out) GX.out) GX.out)
   generalize (((w6.setCell ⟨gx, 0, none⟩ (.int .i64 n)).setCell ⟨gx, 1, none⟩ (.int .i64 m)).setCell ⟨gx, 2, none⟩ (.slice AX X.length cx)) = wf at KS BXf HBf ⊢
   have BNf := Aside0.mk (blk_kept BN6.out KS.out (fun e_ => NNX.out e_))
   have BLf := Aside0.mk (blk_kept BL6.out KS.out (fun e_ => NLX.out e_))
   have BEf := Aside0.mk (blk_kept BE6.out KS.out (fun e_ => NEX.out e_))
   have HXf := Aside0.mk (Kd.R_kept HX6.out KS.out (fun k_ h_ e_ => NXR.out (e_.symm.trans h_)))
   have HGLf := Aside0.mk (Nat.lt_of_lt_of_le HGL6.out KS.out.1)
   go_wp2_with (first | ((with_reducible refine gate_dst (N := 8) rfl ?_); refine box_event ?hg (N := 8) ?hd (cs := #[.nilFunc]) (t := 24) ?hr ?_; (case hd => rfl); (case hg => rfl); (case hr => first | (go_simp; done) | (go_simp; rfl)); intro gp hg wg hbox hb; have GPW := Aside0.mk (show w.heap.size ≤ gp from by rw [hg]; exact HBf.out.size); have NNP := Aside0.mk (show gn ≠ gp from by rw [hg]; exact Nat.ne_of_lt (blk_lt BNf.out)); have NLP := Aside0.mk (show gl ≠ gp from by rw [hg]; exact Nat.ne_of_lt (blk_lt BLf.out)); have NEP := Aside0.mk (show ge ≠ gp from by rw [hg]; exact Nat.ne_of_lt (blk_lt BEf.out)); have NXP := Aside0.mk (show gx ≠ gp from by rw [hg]; exact Nat.ne_of_lt (blk_lt BXf.out)); have NRP := Aside0.mk (show gr ≠ gp from by rw [hg]; exact Nat.ne_of_lt HGLf.out); have BNg := Aside0.mk (blk_below (g := gn) (o := (.cells #[.int .i64 n] 3 (0, 0))) BNf.out hb); have BLg := Aside0.mk (blk_below (g := gl) (o := (.cells #[.int .i64 m] 3 (0, 0))) BLf.out hb); have BEg := Aside0.mk (blk_below (g := ge) (o := (.cells #[.func (.func g) #[] lb] 36 (0, 0))) BEf.out hb); have BXg := Aside0.mk (blk_below (g := gx) (o := (.cells #[.int .i64 n, .int .i64 m, .slice AX X.length cx] 27 (0, 0))) BXf.out hb); have HXg := Aside0.mk (Kd.R_below HXf.out hb); have HGLg := Aside0.mk (Nat.lt_of_lt_of_le HGLf.out hb.size); have HBg := Aside0.mk (below_step HBf.out hb : Below w.heap.size w wg); have BPg := Aside0.mk hbox; have hzp : wg.cell? ⟨gp, 0, none⟩ = some (.nilFunc) := (blk_cell hbox 0).trans rfl; clear hb hbox hg) | (refine store_event (t := 24) (p := 8) (v := ?vn0_) (w1 := ?wn0_) ?hg ?ho ?hn ?hr ?_; (case ho => rfl); (case hg => rfl); (case hn => rfl); (case hr => have hf_ := blk_frozen BPg.out 0; first | (go_simp; done) | (go_simp; rfl)); intro wh hw; have KSh := Aside0.mk (by rw [hw]; (with_reducible repeat (first | refine Kept.alloc ?_ _ | refine Kept.drewN ?_ _ | refine Kept.drew ?_)); exact Kept.setCell (by (with_reducible repeat (first | refine Kept.alloc ?_ _ | refine Kept.drewN ?_ _ | refine Kept.drew ?_)); exact Kept.refl _ _) (.inl (by rfl)) _ : Kept wg wh (fun k_ => k_ = gp)); have HBh := Aside0.mk (by rw [hw]; (with_reducible repeat (first | apply below_drew1 | apply pw_below_drewN)); exact below_set (by repeat (first | (with_reducible first | exact HBg.out | apply below_alloc | apply pw_below_drewN | apply below_drew1) | exact HBg.out)) GPW.out : Below w.heap.size w wh); have BPh := Aside0.mk (by rw [hw]; (with_reducible repeat (first | refine blk_drewN ?_ _ | refine blk_drew ?_ | refine blk_alloc ?_ _)); exact blk_put (by (with_reducible repeat (first | refine blk_drewN ?_ _ | refine blk_drew ?_ | refine blk_alloc ?_ _)); exact BPg.out) 0 _ rfl : wh.heap[gp]? = some (.cells #[.func (.func 24) #[] #[.pointer (some ⟨gn, 0, none⟩), .pointer (some ⟨ge, 0, none⟩), .pointer (some ⟨gx, 0, none⟩), .pointer (some ⟨gl, 0, none⟩), .pointer (some ⟨gp, 0, none⟩)]] 24 (0, 0))); have IH_ := Aside0.mk (show impl_avoiding.Inv (St gr) gn gl ge gx gp gr n m AX X.length cx (.func (.func g) #[] lb) w0 wh X s from ⟨blk_kept BNg.out KSh.out (fun e_ => NNP.out e_), blk_kept BLg.out KSh.out (fun e_ => NLP.out e_), blk_kept BEg.out KSh.out (fun e_ => NEP.out e_), blk_kept BXg.out KSh.out (fun e_ => NXP.out e_), BPh.out, Kd.R_lower (Kd.R_kept HXg.out KSh.out (fun k_ h_ e_ => NRP.out (h_.symm.trans e_))) HW0.out.size, HST.out gr wh GR.out HBh.out, below_of3a HW0.out HBh.out, Nat.lt_of_lt_of_le HGLg.out KSh.out.1⟩); have hzp2 : wh.cell? ⟨gp, 0, none⟩ = some (.func (.func 24) #[] #[.pointer (some ⟨gn, 0, none⟩), .pointer (some ⟨ge, 0, none⟩), .pointer (some ⟨gx, 0, none⟩), .pointer (some ⟨gl, 0, none⟩), .pointer (some ⟨gp, 0, none⟩)]) := (blk_cell BPh.out 0).trans rfl; clear hzp; clear hw) | ((with_reducible refine gate_dst (N := 17) rfl ?_); refine impl_avoiding.goesVL_ (some 17) rfl rfl Try.func24 (by kernel_rfl) rfl #[.int .i64 0, .int .i64 1, .pointer (some ⟨gn, 0, none⟩), .pointer (some ⟨ge, 0, none⟩), .pointer (some ⟨gx, 0, none⟩), .pointer (some ⟨gl, 0, none⟩), .pointer (some ⟨gp, 0, none⟩)] rfl rfl (by simp [Act.eval]) ?_; refine (impl_avoiding.paint (St gr) Sg e g fn lb gn gl ge gx gp gr w0 HFN.out HNM.out HBD.out (fun s_ W_ W2_ => HIK.out gr s_ W_ W2_ (HSG.out gr GR.out)) (HSL.out gr) (HE.out gr (HSG.out gr GR.out)) (Nat.le_trans HW0.out.size GR.out) ⟨HSG.out gn GN.out, HSG.out gl GL.out, HSG.out ge GE.out, HSG.out gx GX.out, HSG.out gp GPW.out, HSG.out gr GR.out⟩ ⟨NNR.out, NLR.out, NER.out, NXR.out, fun e_ => NRP.out e_.symm⟩ k n m AX X.length cx X 0 1 s _ _ IH_.out A2.out).mono ?_; rintro e_ wz ⟨rfl, hiz⟩; refine ⟨_, rfl, ?_⟩; have IZ := Aside0.mk hiz; clear hiz))
   go_ret
   exact ⟨rfl, ⟨gr, IZ.out.st⟩, IZ.out.hb⟩
  ·refine box_step (by rfl) (N := 7) rfl (cs := #[.int .i64 0, .int .i64 0, .slice none 0 0]) (t := 27) ?hr ?_
   case hr => first | (go_simp; done) | (go_simp; rfl)
   intro gx hg w5 hbox hb
   have GX := Aside0.mk (show w.heap.size ≤ gx from by rw [hg]; exact HB4.out.size)
   have NNX := Aside0.mk (show gn ≠ gx from by rw [hg]; exact Nat.ne_of_lt (blk_lt BN4.out))
   have NLX := Aside0.mk (show gl ≠ gx from by rw [hg]; exact Nat.ne_of_lt (blk_lt BL4.out))
   have NEX := Aside0.mk (show ge ≠ gx from by rw [hg]; exact Nat.ne_of_lt (blk_lt BE4.out))
   have BX5 := Aside0.mk (show w5.heap[gx]? = some (.cells #[.int .i64 0, .int .i64 0, .slice none 0 0] 27 (0, 0)) from hbox)
   have BN5 := Aside0.mk (blk_below (g := gn) (o := (.cells #[.int .i64 n] 3 (0, 0))) BN4.out hb)
   have BL5 := Aside0.mk (blk_below (g := gl) (o := (.cells #[.int .i64 m] 3 (0, 0))) BL4.out hb)
   have BE5 := Aside0.mk (blk_below (g := ge) (o := (.cells #[.func (.func g) #[] lb] 36 (0, 0))) BE4.out hb)
   have HB5 := Aside0.mk (below_step HB4.out hb : Below w.heap.size w w5)
   clear hb hbox hg
   refine hK.out _ _ ⟨(blk_cell BN5.out 0).trans rfl, (blk_cell BL5.out 0).trans rfl⟩ (fun hHeld => ?_)
   clear hK K
   refine norm_ (a' := ?_) ?_ ?_
   rotate_left
   ·show Act.put _ (some 7) _ = _
    simp only [Act.put, List.setIfInBounds_toArray, List.set_cons_zero, List.set_cons_succ, i64_w, i32_w]
    rfl
   refine one_ (i := 4) (N := some 13) #[true, true, true, true, true, false, true, false] rfl rfl (one_of HT_.out (by kernel_rfl)) (by decide) (fun K hK => ?_)
   refine Kd.R_make_step (Kd.int .i64) _ 3 (by rfl) (N := 13) rfl 25 _ _ rfl z rfl rfl Try.underlying25 (.int .i64 0) 8 info3 rfl (by decide) (by omega) 0 (ok := fun _ => True) (okp := fun _ => True) rfl (fun _ hk => hk) trivial Z0.out Z1.out (Below.refl _ _) (Nat.le_refl _) ?_
   intro v13 w6 ho hb hg_ hnew_
   clear hg_
   rw [← NX.out] at ho
   obtain ⟨gr, hgr_, hgs_⟩ := hnew_
   have GR := Aside0.mk (show w.heap.size ≤ gr from Nat.le_trans HB5.out.size hgs_)
   have NNR := Aside0.mk (show gn ≠ gr from Nat.ne_of_lt (Nat.lt_of_lt_of_le (blk_lt BN5.out) hgs_))
   have NLR := Aside0.mk (show gl ≠ gr from Nat.ne_of_lt (Nat.lt_of_lt_of_le (blk_lt BL5.out) hgs_))
   have NER := Aside0.mk (show ge ≠ gr from Nat.ne_of_lt (Nat.lt_of_lt_of_le (blk_lt BE5.out) hgs_))
   have NXR := Aside0.mk (show gx ≠ gr from Nat.ne_of_lt (Nat.lt_of_lt_of_le (blk_lt BX5.out) hgs_))
   have HGL6 := Aside0.mk ((Kd.R_bound ho).1 gr hgr_).2.2.1
   have HX6 := Aside0.mk (show Kd.R (Kd.int .i64) 3 w6 w.heap.size (fun k_ => k_ = gr) v13 X from Kd.R_of_own (ok := fun k_ => k_ = gr) (Kd.own_of_R (Kd.R_lower ho HB5.out.size)) (fun k_ hk_ => Option.some.inj (hk_.symm.trans hgr_)))
   have BN6 := Aside0.mk (blk_below (g := gn) (o := (.cells #[.int .i64 n] 3 (0, 0))) BN5.out hb)
   have BL6 := Aside0.mk (blk_below (g := gl) (o := (.cells #[.int .i64 m] 3 (0, 0))) BL5.out hb)
   have BE6 := Aside0.mk (blk_below (g := ge) (o := (.cells #[.func (.func g) #[] lb] 36 (0, 0))) BE5.out hb)
   have HB6 := Aside0.mk (below_step HB5.out hb : Below w.heap.size w w6)
   have BX6 := Aside0.mk (blk_below (g := gx) (o := (.cells #[.int .i64 0, .int .i64 0, .slice none 0 0] 27 (0, 0))) BX5.out hb)
   obtain ⟨AX, cx, ev_⟩ := Kd.R_slice HX6.out
   subst ev_
   clear ho hb hgr_ hgs_
   refine hK.out _ _ ⟨(blk_cell BN6.out 0).trans rfl, (blk_cell BL6.out 0).trans rfl⟩ (fun hHeld => ?_)
   clear hK K
   refine norm_ (a' := ?_) ?_ ?_
   rotate_left
   ·show Act.put _ (some 13) _ = _
    simp only [Act.put, List.setIfInBounds_toArray, List.set_cons_zero, List.set_cons_succ, i64_w, i32_w]
    rfl
   refine pure_ (i := 5) (N := some 14) (v := ?_) (a' := ?_) #[true, true, true, true, true, true, true, false] rfl rfl (any_of HT_.out (by kernel_rfl)) (fun _ _ _ h => h) (Or.inl ⟨by rfl, ?_⟩) ?_ ?_
   rotate_left
   ·intro w'
    go_simp
    with_reducible rfl
   rotate_left
   ·simp only [Act.put, List.setIfInBounds_toArray, List.set_cons_zero, List.set_cons_succ, i64_w, i32_w]
    rfl
   have hzx0 : w6.cell? ⟨gx, 0, none⟩ = some (.int .i64 0) := (blk_cell BX6.out 0).trans rfl
   have hzx1 : w6.cell? ⟨gx, 1, none⟩ = some (.int .i64 0) := (blk_cell BX6.out 1).trans rfl
   have hzx2 : w6.cell? ⟨gx, 2, none⟩ = some (.slice none 0 0) := (blk_cell BX6.out 2).trans rfl
   have hfx0 := blk_frozen BX6.out 0
   have hfx1 := blk_frozen BX6.out 1
   have hfx2 := blk_frozen BX6.out 2
   refine last_ (i := 7) (N := none) #[true, true, true, true, true, true, true, true] rfl rfl (one_of HT_.out (by kernel_rfl)) (by decide) (fun K hK => ?_)
   refine skip_ (w1 := (((w6.setCell ⟨gx, 0, none⟩ (.int .i64 n)).setCell ⟨gx, 1, none⟩ (.int .i64 m)).setCell ⟨gx, 2, none⟩ (.slice AX X.length cx))) (by rfl) rfl ?_ ?_
   ·first | (go_simp; done) | (go_simp; rfl)
   refine hK.out _ _ ?_
   clear hK K
   refine done_ (done_of HT_.out (by kernel_rfl)) ?_
   clear hzx0 hzx1 hzx2 hfx0 hfx1 hfx2 hHeld HT_ HW_
   have KS := Aside0.mk (show Kept w6 (((w6.setCell ⟨gx, 0, none⟩ (.int .i64 n)).setCell ⟨gx, 1, none⟩ (.int .i64 m)).setCell ⟨gx, 2, none⟩ (.slice AX X.length cx)) (fun k_ => k_ = gx) from Kept.setCell (Kept.setCell (Kept.setCell (Kept.refl _ _) (.inl (by rfl)) _) (.inl (by rfl)) _) (.inl (by rfl)) _)
   have BXf := Aside0.mk (show ((((w6.setCell ⟨gx, 0, none⟩ (.int .i64 n)).setCell ⟨gx, 1, none⟩ (.int .i64 m)).setCell ⟨gx, 2, none⟩ (.slice AX X.length cx))).heap[gx]? = some (.cells #[.int .i64 n, .int .i64 m, .slice AX X.length cx] 27 (0, 0)) from blk_put (blk_set (blk_set BX6.out 0 _) 1 _) 2 _ rfl)
   have HBf := Aside0.mk (show Below w.heap.size w (((w6.setCell ⟨gx, 0, none⟩ (.int .i64 n)).setCell ⟨gx, 1, none⟩ (.int .i64 m)).setCell ⟨gx, 2, none⟩ (.slice AX X.length cx)) from below_set (below_set (below_set HB6.out GX.out) GX.out) GX.out)
   generalize (((w6.setCell ⟨gx, 0, none⟩ (.int .i64 n)).setCell ⟨gx, 1, none⟩ (.int .i64 m)).setCell ⟨gx, 2, none⟩ (.slice AX X.length cx)) = wf at KS BXf HBf ⊢
   have BNf := Aside0.mk (blk_kept BN6.out KS.out (fun e_ => NNX.out e_))
   have BLf := Aside0.mk (blk_kept BL6.out KS.out (fun e_ => NLX.out e_))
   have BEf := Aside0.mk (blk_kept BE6.out KS.out (fun e_ => NEX.out e_))
   have HXf := Aside0.mk (Kd.R_kept HX6.out KS.out (fun k_ h_ e_ => NXR.out (e_.symm.trans h_)))
   have HGLf := Aside0.mk (Nat.lt_of_lt_of_le HGL6.out KS.out.1)
   go_wp2_with (first | ((with_reducible refine gate_dst (N := 8) rfl ?_); refine box_event ?hg (N := 8) ?hd (cs := #[.nilFunc]) (t := 24) ?hr ?_; (case hd => rfl); (case hg => rfl); (case hr => first | (go_simp; done) | (go_simp; rfl)); intro gp hg wg hbox hb; have GPW := Aside0.mk (show w.heap.size ≤ gp from by rw [hg]; exact HBf.out.size); have NNP := Aside0.mk (show gn ≠ gp from by rw [hg]; exact Nat.ne_of_lt (blk_lt BNf.out)); have NLP := Aside0.mk (show gl ≠ gp from by rw [hg]; exact Nat.ne_of_lt (blk_lt BLf.out)); have NEP := Aside0.mk (show ge ≠ gp from by rw [hg]; exact Nat.ne_of_lt (blk_lt BEf.out)); have NXP := Aside0.mk (show gx ≠ gp from by rw [hg]; exact Nat.ne_of_lt (blk_lt BXf.out)); have NRP := Aside0.mk (show gr ≠ gp from by rw [hg]; exact Nat.ne_of_lt HGLf.out); have BNg := Aside0.mk (blk_below (g := gn) (o := (.cells #[.int .i64 n] 3 (0, 0))) BNf.out hb); have BLg := Aside0.mk (blk_below (g := gl) (o := (.cells #[.int .i64 m] 3 (0, 0))) BLf.out hb); have BEg := Aside0.mk (blk_below (g := ge) (o := (.cells #[.func (.func g) #[] lb] 36 (0, 0))) BEf.out hb); have BXg := Aside0.mk (blk_below (g := gx) (o := (.cells #[.int .i64 n, .int .i64 m, .slice AX X.length cx] 27 (0, 0))) BXf.out hb); have HXg := Aside0.mk (Kd.R_below HXf.out hb); have HGLg := Aside0.mk (Nat.lt_of_lt_of_le HGLf.out hb.size); have HBg := Aside0.mk (below_step HBf.out hb : Below w.heap.size w wg); have BPg := Aside0.mk hbox; have hzp : wg.cell? ⟨gp, 0, none⟩ = some (.nilFunc) := (blk_cell hbox 0).trans rfl; clear hb hbox hg) | (refine store_event (t := 24) (p := 8) (v := ?vn1_) (w1 := ?wn1_) ?hg ?ho ?hn ?hr ?_; (case ho => rfl); (case hg => rfl); (case hn => rfl); (case hr => have hf_ := blk_frozen BPg.out 0; first | (go_simp; done) | (go_simp; rfl)); intro wh hw; have KSh := Aside0.mk (by rw [hw]; (with_reducible repeat (first | refine Kept.alloc ?_ _ | refine Kept.drewN ?_ _ | refine Kept.drew ?_)); exact Kept.setCell (by (with_reducible repeat (first | refine Kept.alloc ?_ _ | refine Kept.drewN ?_ _ | refine Kept.drew ?_)); exact Kept.refl _ _) (.inl (by rfl)) _ : Kept wg wh (fun k_ => k_ = gp)); have HBh := Aside0.mk (by rw [hw]; (with_reducible repeat (first | apply below_drew1 | apply pw_below_drewN)); exact below_set (by repeat (first | (with_reducible first | exact HBg.out | apply below_alloc | apply pw_below_drewN | apply below_drew1) | exact HBg.out)) GPW.out : Below w.heap.size w wh); have BPh := Aside0.mk (by rw [hw]; (with_reducible repeat (first | refine blk_drewN ?_ _ | refine blk_drew ?_ | refine blk_alloc ?_ _)); exact blk_put (by (with_reducible repeat (first | refine blk_drewN ?_ _ | refine blk_drew ?_ | refine blk_alloc ?_ _)); exact BPg.out) 0 _ rfl : wh.heap[gp]? = some (.cells #[.func (.func 24) #[] #[.pointer (some ⟨gn, 0, none⟩), .pointer (some ⟨ge, 0, none⟩), .pointer (some ⟨gx, 0, none⟩), .pointer (some ⟨gl, 0, none⟩), .pointer (some ⟨gp, 0, none⟩)]] 24 (0, 0))); have IH_ := Aside0.mk (show impl_avoiding.Inv (St gr) gn gl ge gx gp gr n m AX X.length cx (.func (.func g) #[] lb) w0 wh X s from ⟨blk_kept BNg.out KSh.out (fun e_ => NNP.out e_), blk_kept BLg.out KSh.out (fun e_ => NLP.out e_), blk_kept BEg.out KSh.out (fun e_ => NEP.out e_), blk_kept BXg.out KSh.out (fun e_ => NXP.out e_), BPh.out, Kd.R_lower (Kd.R_kept HXg.out KSh.out (fun k_ h_ e_ => NRP.out (h_.symm.trans e_))) HW0.out.size, HST.out gr wh GR.out HBh.out, below_of3a HW0.out HBh.out, Nat.lt_of_lt_of_le HGLg.out KSh.out.1⟩); have hzp2 : wh.cell? ⟨gp, 0, none⟩ = some (.func (.func 24) #[] #[.pointer (some ⟨gn, 0, none⟩), .pointer (some ⟨ge, 0, none⟩), .pointer (some ⟨gx, 0, none⟩), .pointer (some ⟨gl, 0, none⟩), .pointer (some ⟨gp, 0, none⟩)]) := (blk_cell BPh.out 0).trans rfl; clear hzp; clear hw) | ((with_reducible refine gate_dst (N := 17) rfl ?_); refine impl_avoiding.goesVL_ (some 17) rfl rfl Try.func24 (by kernel_rfl) rfl #[.int .i64 0, .int .i64 1, .pointer (some ⟨gn, 0, none⟩), .pointer (some ⟨ge, 0, none⟩), .pointer (some ⟨gx, 0, none⟩), .pointer (some ⟨gl, 0, none⟩), .pointer (some ⟨gp, 0, none⟩)] rfl rfl (by simp [Act.eval]) ?_; refine (impl_avoiding.paint (St gr) Sg e g fn lb gn gl ge gx gp gr w0 HFN.out HNM.out HBD.out (fun s_ W_ W2_ => HIK.out gr s_ W_ W2_ (HSG.out gr GR.out)) (HSL.out gr) (HE.out gr (HSG.out gr GR.out)) (Nat.le_trans HW0.out.size GR.out) ⟨HSG.out gn GN.out, HSG.out gl GL.out, HSG.out ge GE.out, HSG.out gx GX.out, HSG.out gp GPW.out, HSG.out gr GR.out⟩ ⟨NNR.out, NLR.out, NER.out, NXR.out, fun e_ => NRP.out e_.symm⟩ k n m AX X.length cx X 0 1 s _ _ IH_.out A2.out).mono ?_; rintro e_ wz ⟨rfl, hiz⟩; refine ⟨_, rfl, ?_⟩; have IZ := Aside0.mk hiz; clear hiz))
   go_ret
   exact ⟨rfl, ⟨gr, IZ.out.st⟩, IZ.out.hb⟩
 ·refine box_step (by rfl) (N := 7) rfl (cs := #[.int .i64 0, .int .i64 0, .slice none 0 0]) (t := 27) ?hr ?_
  case hr => first | (go_simp; done) | (go_simp; rfl)
  intro gx hg w4 hbox hb
  have GX := Aside0.mk (show w.heap.size ≤ gx from by rw [hg]; exact HBd.out.size)
  have NNX := Aside0.mk (show gn ≠ gx from by rw [hg]; exact Nat.ne_of_lt (blk_lt BNd.out))
  have NLX := Aside0.mk (show gl ≠ gx from by rw [hg]; exact Nat.ne_of_lt (blk_lt BLd.out))
  have NEX := Aside0.mk (show ge ≠ gx from by rw [hg]; exact Nat.ne_of_lt (blk_lt BEd.out))
  have BX4 := Aside0.mk (show w4.heap[gx]? = some (.cells #[.int .i64 0, .int .i64 0, .slice none 0 0] 27 (0, 0)) from hbox)
  have BN4 := Aside0.mk (blk_below (g := gn) (o := (.cells #[.int .i64 n] 3 (0, 0))) BNd.out hb)
  have BL4 := Aside0.mk (blk_below (g := gl) (o := (.cells #[.int .i64 m] 3 (0, 0))) BLd.out hb)
  have BE4 := Aside0.mk (blk_below (g := ge) (o := (.cells #[.func (.func g) #[] lb] 36 (0, 0))) BEd.out hb)
  have HB4 := Aside0.mk (below_step HBd.out hb : Below w.heap.size w w4)
  clear hb hbox hg
  refine hK.out _ _ ⟨(blk_cell BN4.out 0).trans rfl, (blk_cell BL4.out 0).trans rfl⟩ (fun hHeld => ?_)
  clear hK K
  refine norm_ (a' := ?_) ?_ ?_
  rotate_left
  ·show Act.put _ (some 7) _ = _
   simp only [Act.put, List.setIfInBounds_toArray, List.set_cons_zero, List.set_cons_succ, i64_w, i32_w]
   rfl
  refine one_ (i := 3) (N := some 12) #[true, true, true, true, false, false, true, false] rfl rfl (one_of HT_.out (by kernel_rfl)) (by decide) (fun K hK => ?_)
  refine goes_ Try.func23 (by kernel_rfl) rfl #[.int .i64 n, .int .i64 2] (by rfl) rfl rfl (by (try simp only [List.map_toArray, List.map_cons, List.map_nil]); first | done | rfl) ?_
  with_reducible refine (impl_choose.calls k n 2 z _ A1.out).mono ?_
  rintro e_ w' ⟨rfl, ⟨nd, rfl⟩⟩
  refine ⟨_, rfl, ?_⟩
  obtain ⟨w5, hw5⟩ : ∃ y_ : World, w4.drewN nd = y_ := ⟨_, rfl⟩
  have hb : Below w4.heap.size w4 w5 := hw5 ▸ pw_below_drewN (Below.refl _ _) nd
  rw [hw5]
  clear hw5
  have BN5 := Aside0.mk (blk_below (g := gn) (o := (.cells #[.int .i64 n] 3 (0, 0))) BN4.out hb)
  have BL5 := Aside0.mk (blk_below (g := gl) (o := (.cells #[.int .i64 m] 3 (0, 0))) BL4.out hb)
  have BE5 := Aside0.mk (blk_below (g := ge) (o := (.cells #[.func (.func g) #[] lb] 36 (0, 0))) BE4.out hb)
  have HB5 := Aside0.mk (below_step HB4.out hb : Below w.heap.size w w5)
  have BX5 := Aside0.mk (blk_below (g := gx) (o := (.cells #[.int .i64 0, .int .i64 0, .slice none 0 0] 27 (0, 0))) BX4.out hb)
  clear hb
  refine hK.out _ _ ⟨(blk_cell BN5.out 0).trans rfl, (blk_cell BL5.out 0).trans rfl⟩ (fun hHeld => ?_)
  clear hK K
  refine norm_ (a' := ?_) ?_ ?_
  rotate_left
  ·show Act.put _ (some 12) _ = _
   simp only [Act.put, List.setIfInBounds_toArray, List.set_cons_zero, List.set_cons_succ, i64_w, i32_w]
   rfl
  refine one_ (i := 4) (N := some 13) #[true, true, true, true, true, false, true, false] rfl rfl (one_of HT_.out (by kernel_rfl)) (by decide) (fun K hK => ?_)
  refine Kd.R_make_step (Kd.int .i64) _ 3 (by rfl) (N := 13) rfl 25 _ _ rfl z rfl rfl Try.underlying25 (.int .i64 0) 8 info3 rfl (by decide) (by omega) 0 (ok := fun _ => True) (okp := fun _ => True) rfl (fun _ hk => hk) trivial Z0.out Z1.out (Below.refl _ _) (Nat.le_refl _) ?_
  intro v13 w6 ho hb hg_ hnew_
  clear hg_
  rw [← NX.out] at ho
  obtain ⟨gr, hgr_, hgs_⟩ := hnew_
  have GR := Aside0.mk (show w.heap.size ≤ gr from Nat.le_trans HB5.out.size hgs_)
  have NNR := Aside0.mk (show gn ≠ gr from Nat.ne_of_lt (Nat.lt_of_lt_of_le (blk_lt BN5.out) hgs_))
  have NLR := Aside0.mk (show gl ≠ gr from Nat.ne_of_lt (Nat.lt_of_lt_of_le (blk_lt BL5.out) hgs_))
  have NER := Aside0.mk (show ge ≠ gr from Nat.ne_of_lt (Nat.lt_of_lt_of_le (blk_lt BE5.out) hgs_))
  have NXR := Aside0.mk (show gx ≠ gr from Nat.ne_of_lt (Nat.lt_of_lt_of_le (blk_lt BX5.out) hgs_))
  have HGL6 := Aside0.mk ((Kd.R_bound ho).1 gr hgr_).2.2.1
  have HX6 := Aside0.mk (show Kd.R (Kd.int .i64) 3 w6 w.heap.size (fun k_ => k_ = gr) v13 X from Kd.R_of_own (ok := fun k_ => k_ = gr) (Kd.own_of_R (Kd.R_lower ho HB5.out.size)) (fun k_ hk_ => Option.some.inj (hk_.symm.trans hgr_)))
  have BN6 := Aside0.mk (blk_below (g := gn) (o := (.cells #[.int .i64 n] 3 (0, 0))) BN5.out hb)
  have BL6 := Aside0.mk (blk_below (g := gl) (o := (.cells #[.int .i64 m] 3 (0, 0))) BL5.out hb)
  have BE6 := Aside0.mk (blk_below (g := ge) (o := (.cells #[.func (.func g) #[] lb] 36 (0, 0))) BE5.out hb)
  have HB6 := Aside0.mk (below_step HB5.out hb : Below w.heap.size w w6)
  have BX6 := Aside0.mk (blk_below (g := gx) (o := (.cells #[.int .i64 0, .int .i64 0, .slice none 0 0] 27 (0, 0))) BX5.out hb)
  obtain ⟨AX, cx, ev_⟩ := Kd.R_slice HX6.out
  subst ev_
  clear ho hb hgr_ hgs_
  refine hK.out _ _ ⟨(blk_cell BN6.out 0).trans rfl, (blk_cell BL6.out 0).trans rfl⟩ (fun hHeld => ?_)
  clear hK K
  refine norm_ (a' := ?_) ?_ ?_
  rotate_left
  ·show Act.put _ (some 13) _ = _
   simp only [Act.put, List.setIfInBounds_toArray, List.set_cons_zero, List.set_cons_succ, i64_w, i32_w]
   rfl
  refine pure_ (i := 5) (N := some 14) (v := ?_) (a' := ?_) #[true, true, true, true, true, true, true, false] rfl rfl (any_of HT_.out (by kernel_rfl)) (fun _ _ _ h => h) (Or.inl ⟨by rfl, ?_⟩) ?_ ?_
  rotate_left
  ·intro w'
   go_simp
   with_reducible rfl
  rotate_left
  ·simp only [Act.put, List.setIfInBounds_toArray, List.set_cons_zero, List.set_cons_succ, i64_w, i32_w]
   rfl
  have hzx0 : w6.cell? ⟨gx, 0, none⟩ = some (.int .i64 0) := (blk_cell BX6.out 0).trans rfl
  have hzx1 : w6.cell? ⟨gx, 1, none⟩ = some (.int .i64 0) := (blk_cell BX6.out 1).trans rfl
  have hzx2 : w6.cell? ⟨gx, 2, none⟩ = some (.slice none 0 0) := (blk_cell BX6.out 2).trans rfl
  have hfx0 := blk_frozen BX6.out 0
  have hfx1 := blk_frozen BX6.out 1
  have hfx2 := blk_frozen BX6.out 2
  refine last_ (i := 7) (N := none) #[true, true, true, true, true, true, true, true] rfl rfl (one_of HT_.out (by kernel_rfl)) (by decide) (fun K hK => ?_)
  refine skip_ (w1 := (((w6.setCell ⟨gx, 0, none⟩ (.int .i64 n)).setCell ⟨gx, 1, none⟩ (.int .i64 m)).setCell ⟨gx, 2, none⟩ (.slice AX X.length cx))) (by rfl) rfl ?_ ?_
  ·first | (go_simp; done) | (go_simp; rfl)
  refine hK.out _ _ ?_
  clear hK K
  refine done_ (done_of HT_.out (by kernel_rfl)) ?_
  clear hzx0 hzx1 hzx2 hfx0 hfx1 hfx2 hHeld HT_ HW_
  have KS := Aside0.mk (show Kept w6 (((w6.setCell ⟨gx, 0, none⟩ (.int .i64 n)).setCell ⟨gx, 1, none⟩ (.int .i64 m)).setCell ⟨gx, 2, none⟩ (.slice AX X.length cx)) (fun k_ => k_ = gx) from Kept.setCell (Kept.setCell (Kept.setCell (Kept.refl _ _) (.inl (by rfl)) _) (.inl (by rfl)) _) (.inl (by rfl)) _)
  have BXf := Aside0.mk (show ((((w6.setCell ⟨gx, 0, none⟩ (.int .i64 n)).setCell ⟨gx, 1, none⟩ (.int .i64 m)).setCell ⟨gx, 2, none⟩ (.slice AX X.length cx))).heap[gx]? = some (.cells #[.int .i64 n, .int .i64 m, .slice AX X.length cx] 27 (0, 0)) from blk_put (blk_set (blk_set BX6.out 0 _) 1 _) 2 _ rfl)
  have HBf := Aside0.mk (show Below w.heap.size w (((w6.setCell ⟨gx, 0, none⟩ (.int .i64 n)).setCell ⟨gx, 1, none⟩ (.int .i64 m)).setCell ⟨gx, 2, none⟩ (.slice AX X.length cx)) from below_set (below_set (below_set HB6.out GX.out) GX.out) GX.out)
  generalize (((w6.setCell ⟨gx, 0, none⟩ (.int .i64 n)).setCell ⟨gx, 1, none⟩ (.int .i64 m)).setCell ⟨gx, 2, none⟩ (.slice AX X.length cx)) = wf at KS BXf HBf ⊢
  have BNf := Aside0.mk (blk_kept BN6.out KS.out (fun e_ => NNX.out e_))
  have BLf := Aside0.mk (blk_kept BL6.out KS.out (fun e_ => NLX.out e_))
  have BEf := Aside0.mk (blk_kept BE6.out KS.out (fun e_ => NEX.out e_))
  have HXf := Aside0.mk (Kd.R_kept HX6.out KS.out (fun k_ h_ e_ => NXR.out (e_.symm.trans h_)))
  have HGLf := Aside0.mk (Nat.lt_of_lt_of_le HGL6.out KS.out.1)
  go_wp2_with (first | ((with_reducible refine gate_dst (N := 8) rfl ?_); refine box_event ?hg (N := 8) ?hd (cs := #[.nilFunc]) (t := 24) ?hr ?_; (case hd => rfl); (case hg => rfl); (case hr => first | (go_simp; done) | (go_simp; rfl)); intro gp hg wg hbox hb; have GPW := Aside0.mk (show w.heap.size ≤ gp from by rw [hg]; exact HBf.out.size); have NNP := Aside0.mk (show gn ≠ gp from by rw [hg]; exact Nat.ne_of_lt (blk_lt BNf.out)); have NLP := Aside0.mk (show gl ≠ gp from by rw [hg]; exact Nat.ne_of_lt (blk_lt BLf.out)); have NEP := Aside0.mk (show ge ≠ gp from by rw [hg]; exact Nat.ne_of_lt (blk_lt BEf.out)); have NXP := Aside0.mk (show gx ≠ gp from by rw [hg]; exact Nat.ne_of_lt (blk_lt BXf.out)); have NRP := Aside0.mk (show gr ≠ gp from by rw [hg]; exact Nat.ne_of_lt HGLf.out); have BNg := Aside0.mk (blk_below (g := gn) (o := (.cells #[.int .i64 n] 3 (0, 0))) BNf.out hb); have BLg := Aside0.mk (blk_below (g := gl) (o := (.cells #[.int .i64 m] 3 (0, 0))) BLf.out hb); have BEg := Aside0.mk (blk_below (g := ge) (o := (.cells #[.func (.func g) #[] lb] 36 (0, 0))) BEf.out hb); have BXg := Aside0.mk (blk_below (g := gx) (o := (.cells #[.int .i64 n, .int .i64 m, .slice AX X.length cx] 27 (0, 0))) BXf.out hb); have HXg := Aside0.mk (Kd.R_below HXf.out hb); have HGLg := Aside0.mk (Nat.lt_of_lt_of_le HGLf.out hb.size); have HBg := Aside0.mk (below_step HBf.out hb : Below w.heap.size w wg); have BPg := Aside0.mk hbox; have hzp : wg.cell? ⟨gp, 0, none⟩ = some (.nilFunc) := (blk_cell hbox 0).trans rfl; clear hb hbox hg) | (refine store_event (t := 24) (p := 8) (v := ?vn2_) (w1 := ?wn2_) ?hg ?ho ?hn ?hr ?_; (case ho => rfl); (case hg => rfl); (case hn => rfl); (case hr => have hf_ := blk_frozen BPg.out 0; first | (go_simp; done) | (go_simp; rfl)); intro wh hw; have KSh := Aside0.mk (by rw [hw]; (with_reducible repeat (first | refine Kept.alloc ?_ _ | refine Kept.drewN ?_ _ | refine Kept.drew ?_)); exact Kept.setCell (by (with_reducible repeat (first | refine Kept.alloc ?_ _ | refine Kept.drewN ?_ _ | refine Kept.drew ?_)); exact Kept.refl _ _) (.inl (by rfl)) _ : Kept wg wh (fun k_ => k_ = gp)); have HBh := Aside0.mk (by rw [hw]; (with_reducible repeat (first | apply below_drew1 | apply pw_below_drewN)); exact below_set (by repeat (first | (with_reducible first | exact HBg.out | apply below_alloc | apply pw_below_drewN | apply below_drew1) | exact HBg.out)) GPW.out : Below w.heap.size w wh); have BPh := Aside0.mk (by rw [hw]; (with_reducible repeat (first | refine blk_drewN ?_ _ | refine blk_drew ?_ | refine blk_alloc ?_ _)); exact blk_put (by (with_reducible repeat (first | refine blk_drewN ?_ _ | refine blk_drew ?_ | refine blk_alloc ?_ _)); exact BPg.out) 0 _ rfl : wh.heap[gp]? = some (.cells #[.func (.func 24) #[] #[.pointer (some ⟨gn, 0, none⟩), .pointer (some ⟨ge, 0, none⟩), .pointer (some ⟨gx, 0, none⟩), .pointer (some ⟨gl, 0, none⟩), .pointer (some ⟨gp, 0, none⟩)]] 24 (0, 0))); have IH_ := Aside0.mk (show impl_avoiding.Inv (St gr) gn gl ge gx gp gr n m AX X.length cx (.func (.func g) #[] lb) w0 wh X s from ⟨blk_kept BNg.out KSh.out (fun e_ => NNP.out e_), blk_kept BLg.out KSh.out (fun e_ => NLP.out e_), blk_kept BEg.out KSh.out (fun e_ => NEP.out e_), blk_kept BXg.out KSh.out (fun e_ => NXP.out e_), BPh.out, Kd.R_lower (Kd.R_kept HXg.out KSh.out (fun k_ h_ e_ => NRP.out (h_.symm.trans e_))) HW0.out.size, HST.out gr wh GR.out HBh.out, below_of3a HW0.out HBh.out, Nat.lt_of_lt_of_le HGLg.out KSh.out.1⟩); have hzp2 : wh.cell? ⟨gp, 0, none⟩ = some (.func (.func 24) #[] #[.pointer (some ⟨gn, 0, none⟩), .pointer (some ⟨ge, 0, none⟩), .pointer (some ⟨gx, 0, none⟩), .pointer (some ⟨gl, 0, none⟩), .pointer (some ⟨gp, 0, none⟩)]) := (blk_cell BPh.out 0).trans rfl; clear hzp; clear hw) | ((with_reducible refine gate_dst (N := 17) rfl ?_); refine impl_avoiding.goesVL_ (some 17) rfl rfl Try.func24 (by kernel_rfl) rfl #[.int .i64 0, .int .i64 1, .pointer (some ⟨gn, 0, none⟩), .pointer (some ⟨ge, 0, none⟩), .pointer (some ⟨gx, 0, none⟩), .pointer (some ⟨gl, 0, none⟩), .pointer (some ⟨gp, 0, none⟩)] rfl rfl (by simp [Act.eval]) ?_; refine (impl_avoiding.paint (St gr) Sg e g fn lb gn gl ge gx gp gr w0 HFN.out HNM.out HBD.out (fun s_ W_ W2_ => HIK.out gr s_ W_ W2_ (HSG.out gr GR.out)) (HSL.out gr) (HE.out gr (HSG.out gr GR.out)) (Nat.le_trans HW0.out.size GR.out) ⟨HSG.out gn GN.out, HSG.out gl GL.out, HSG.out ge GE.out, HSG.out gx GX.out, HSG.out gp GPW.out, HSG.out gr GR.out⟩ ⟨NNR.out, NLR.out, NER.out, NXR.out, fun e_ => NRP.out e_.symm⟩ k n m AX X.length cx X 0 1 s _ _ IH_.out A2.out).mono ?_; rintro e_ wz ⟨rfl, hiz⟩; refine ⟨_, rfl, ?_⟩; have IZ := Aside0.mk hiz; clear hiz))
  go_ret
  exact ⟨rfl, ⟨gr, IZ.out.st⟩, IZ.out.hb⟩
def impl_CountAvoiding.e (s : Int) (_ : List Int) : Int × Bool := (wrap64 (s + 1), true)
set_option maxHeartbeats 8000000 in
set_option maxRecDepth 100000 in
theorem impl_CountAvoiding_1.calls (go : Nat) (w0 W : World) (A : Option Addr) (c : Nat) (o : List Int) (s : Int) (hgo : w0.heap.size ≤ go) (hb : W.heap[go]? = some (.cells #[.int .i64 s] 3 (0, 0))) (hB : Below w0.heap.size w0 W) :
  Calls Try.prog 16 #[.slice A o.length c, .pointer (some ⟨go, 0, none⟩)] W fun e' w' => e' = .returned (.bool true) ∧ w'.heap[go]? = some (.cells #[.int .i64 (wrap64 (s + 1))] 3 (0, 0)) ∧ Below w0.heap.size w0 w' ∧ Kept W w' (fun k_ => k_ = go) := by
 have GO := Aside0.mk hgo
 have HB := Aside0.mk hB
 have BO := Aside0.mk hb
 clear hgo hB
 have hzo : W.cell? ⟨go, 0, none⟩ = some (.int .i64 s) := (blk_cell BO.out 0).trans rfl
 clear hb
 go_enter Try.func16, Try.ntmps16
 go_wp2_with (first | (refine store_event (t := 3) (p := 1) (v := ?vn3_) (w1 := ?wn3_) ?hg ?ho ?hn ?hr ?_; (case ho => rfl); (case hg => rfl); (case hn => rfl); (case hr => have hf_ := blk_frozen BO.out 0; first | (go_simp; done) | (go_simp; rfl)); intro w2 hw; have BO2 := Aside0.mk (by rw [hw]; (with_reducible repeat (first | refine blk_drewN ?_ _ | refine blk_drew ?_ | refine blk_alloc ?_ _)); exact blk_put (by (with_reducible repeat (first | refine blk_drewN ?_ _ | refine blk_drew ?_ | refine blk_alloc ?_ _)); exact BO.out) 0 _ rfl : w2.heap[go]? = some (.cells #[.int .i64 (wrap64 (s + 1))] 3 (0, 0))); have HB2 := Aside0.mk (by rw [hw]; (with_reducible repeat (first | apply below_drew1 | apply pw_below_drewN)); exact below_set (by repeat (first | (with_reducible first | exact HB.out | apply below_alloc | apply pw_below_drewN | apply below_drew1) | exact HB.out)) GO.out : Below w0.heap.size w0 w2); have HK2 := Aside0.mk (by rw [hw]; (with_reducible repeat (first | refine Kept.alloc ?_ _ | refine Kept.drewN ?_ _ | refine Kept.drew ?_)); exact Kept.setCell (by (with_reducible repeat (first | refine Kept.alloc ?_ _ | refine Kept.drewN ?_ _ | refine Kept.drew ?_)); exact Kept.refl W _) (.inl (by rfl)) _ : Kept W w2 (fun k_ => k_ = go)); clear hw))
 go_ret
 exact ⟨rfl, (by (with_reducible repeat (first | refine blk_drewN ?_ _ | refine blk_drew ?_ | refine blk_alloc ?_ _)); exact BO2.out), by repeat (first | (with_reducible first | exact HB2.out | apply below_alloc | apply pw_below_drewN | apply below_drew1) | exact HB2.out), (by (with_reducible repeat (first | refine Kept.alloc ?_ _ | refine Kept.drewN ?_ _ | refine Kept.drew ?_)); exact HK2.out)⟩
theorem impl_CountAvoiding.av0 (k : Nat) (n m : Int) (go : Nat) (w0 W : World) (r : Bool × Int) (hgo : w0.heap.size ≤ go) (hB : Below w0.heap.size w0 W) (hb : W.heap[go]? = some (.cells #[.int .i64 0] 3 (0, 0))) (h : impl_avoiding.f impl_CountAvoiding.e k n m 0 = some r) :
  Calls Try.prog 15 #[.int .i64 n, .int .i64 m, .func (.func 16) #[] #[.pointer (some ⟨go, 0, none⟩)]] W fun e' w' => e' = .returned (.bool r.1) ∧ w'.heap[go]? = some (.cells #[.int .i64 r.2] 3 (0, 0)) ∧ Below w0.heap.size w0 w' := by
 refine (impl_avoiding.calls (fun _ s_ W_ => W_.heap[go]? = some (.cells #[.int .i64 s_] 3 (0, 0))) (fun k_ => k_ = go) impl_CountAvoiding.e 16 _ #[.pointer (some ⟨go, 0, none⟩)] w0 Try.func16 (by kernel_rfl) rfl (fun gr s_ W_ W2_ hn h_ hk_ => blk_kept h_ hk_ (fun e_ => hn e_.symm)) (fun gr s_ W_ h_ k_ hk_ => hk_ ▸ blk_lt h_) (fun gr hn W_ A c o s_ h_ hB_ hR_ => ?_) k n m 0 r W hB (fun k_ hk_ e_ => Nat.lt_irrefl _ (Nat.lt_of_lt_of_le (blk_lt hb) (e_ ▸ hk_))) (fun gr W_ _ hB_ => blk_below (g := go) (o := (.cells #[.int .i64 0] 3 (0, 0))) hb hB_) h).mono ?_
 ·have e_ : (#[.slice A o.length c] ++ #[.pointer (some ⟨go, 0, none⟩)] : Array Value) = #[.slice A o.length c, .pointer (some ⟨go, 0, none⟩)] := by simp
  rw [e_]
  refine (impl_CountAvoiding_1.calls go w0 W_ A c o s_ hgo h_ hB_).mono ?_
  rintro e' w' ⟨rfl, h1, h2, h3⟩
  exact ⟨rfl, h1, h2, h3⟩
 ·rintro e' w' ⟨rfl, ⟨gr, h1⟩, h2⟩
  exact ⟨rfl, h1, h2⟩
def impl_CountAvoiding.f (k : Nat) (a0 : Int) (a1 : Int) : Option (Int × Bool) := (impl_isPainted.f a0 a1).bind fun s => if s = true then (if 5 < a0 then some (0, false) else ((impl_avoiding.f impl_CountAvoiding.e k a0 a1 0).bind fun q => some (q.2, true))) else some (0, false)
theorem impl_CountAvoiding.mono : ∀ a0 a1 k, LeO (impl_CountAvoiding.f k a0 a1) (impl_CountAvoiding.f (k + 1) a0 a1) := by
 intro a0 a1 k
 unfold impl_CountAvoiding.f
 exact LeO.bind (LeO.refl _) (fun _ => LeO.ite (LeO.ite (LeO.refl _) (LeO.bind (impl_avoiding.monof _ _ _ _ _) (fun _ => LeO.refl _))) (LeO.refl _))
set_option maxHeartbeats 8000000 in
set_option maxRecDepth 100000 in
theorem impl_CountAvoiding.calls (k : Nat) (a0 : Int) (a1 : Int) (r1 : Int) (r2 : Bool) (w : World) (h : impl_CountAvoiding.f k a0 a1 = some (r1, r2)) :
  Calls Try.prog 6 #[.int .i64 a0, .int .i64 a1] w fun e w' => e = .returned (.tuple #[.int .i64 r1, .bool r2]) ∧ Below w.heap.size w w' := by
 have HB := Aside0.mk (Below.refl w.heap.size w)
 unfold impl_CountAvoiding.f at h
 replace h := Option.bind_eq_some_iff.1 h
 obtain ⟨s, hs, h⟩ := h
 have A1 := Aside0.mk hs
 clear hs
 cases s with
 | false =>
  rw [if_neg (by simp)] at h
  simp only [Option.some.injEq, Prod.mk.injEq] at h
  obtain ⟨rfl, rfl⟩ := h
  go_enter Try.func6, Try.ntmps6
  go_wp2_with (first | (go_at_call 14; (with_reducible refine (impl_isPainted.calls a0 a1 false _ A1.out).mono ?_); rintro e w' ⟨rfl, ⟨nd, rfl⟩⟩))
  go_ret2
  exact ⟨(by first | rfl | (simp; done) | (simp [*]; done)), by repeat (first | (with_reducible first | exact HB.out | apply below_alloc | apply pw_below_drewN | apply below_drew1) | exact HB.out)⟩
 | true =>
  rw [if_pos rfl] at h
  by_cases z : 5 < a0
  ·rw [if_pos z] at h
   have z1 : decide (a0 > 5) = true := decide_eq_true z
   have z2 : decide (5 < a0) = true := decide_eq_true z
   clear z
   simp only [Option.some.injEq, Prod.mk.injEq] at h
   obtain ⟨rfl, rfl⟩ := h
   go_enter Try.func6, Try.ntmps6
   go_wp2_with (first | (go_at_call 14; (with_reducible refine (impl_isPainted.calls a0 a1 true _ A1.out).mono ?_); rintro e w' ⟨rfl, ⟨nd, rfl⟩⟩))
   go_ret2
   exact ⟨(by first | rfl | (simp; done) | (simp [*]; done)), by repeat (first | (with_reducible first | exact HB.out | apply below_alloc | apply pw_below_drewN | apply below_drew1) | exact HB.out)⟩
  ·rw [if_neg z] at h
   have z1 : decide (a0 > 5) = false := decide_eq_false z
   have z2 : decide (5 < a0) = false := decide_eq_false z
   clear z
   replace h := Option.bind_eq_some_iff.1 h
   obtain ⟨q, hq, h⟩ := h
   have A2 := Aside0.mk hq
   clear hq
   simp only [Option.some.injEq, Prod.mk.injEq] at h
   obtain ⟨rfl, rfl⟩ := h
   go_enter Try.func6, Try.ntmps6
   go_wp2_with (first | (go_at_call 14; (with_reducible refine (impl_isPainted.calls a0 a1 true _ A1.out).mono ?_); rintro e w' ⟨rfl, ⟨nd, rfl⟩⟩) | ((with_reducible refine gate_dst (N := 6) rfl ?_); refine box_event ?hg (N := 6) ?hd (cs := #[.int .i64 0]) (t := 3) ?hr ?_; (case hd => rfl); (case hg => rfl); (case hr => first | (go_simp; done) | (go_simp; rfl)); intro go hg w2 hbox hb; have GO := Aside0.mk (show w.heap.size ≤ go from by rw [hg]; exact below_size (by repeat (first | (with_reducible first | exact HB.out | apply below_alloc | apply pw_below_drewN | apply below_drew1) | exact HB.out))); have HB2 := Aside0.mk ((below_step (by repeat (first | (with_reducible first | exact HB.out | apply below_alloc | apply pw_below_drewN | apply below_drew1) | exact HB.out)) hb : Below w.heap.size w w2)); have BO2 := Aside0.mk (hbox); have hzo : w2.cell? ⟨go, 0, none⟩ = some (.int .i64 0) := (blk_cell hbox 0).trans rfl; clear hb hbox hg) | (refine store_event (t := 3) (p := 6) (v := ?vn4_) (w1 := ?wn4_) ?hg ?ho ?hn ?hr ?_; (case ho => rfl); (case hg => rfl); (case hn => rfl); (case hr => have hf_ := blk_frozen BO2.out 0; first | (go_simp; done) | (go_simp; rfl)); intro w3 hw; have BO3 := Aside0.mk (by rw [hw]; (with_reducible repeat (first | refine blk_drewN ?_ _ | refine blk_drew ?_ | refine blk_alloc ?_ _)); exact blk_put (by (with_reducible repeat (first | refine blk_drewN ?_ _ | refine blk_drew ?_ | refine blk_alloc ?_ _)); exact BO2.out) 0 _ rfl : w3.heap[go]? = some (.cells #[.int .i64 0] 3 (0, 0))); have HB3 := Aside0.mk (by rw [hw]; (with_reducible repeat (first | apply below_drew1 | apply pw_below_drewN)); exact below_set (by repeat (first | (with_reducible first | exact HB2.out | apply below_alloc | apply pw_below_drewN | apply below_drew1) | exact HB2.out)) GO.out : Below w.heap.size w w3); clear hzo; clear hw) | (go_at_call 15; (with_reducible refine (impl_CountAvoiding.av0 k a0 a1 go w _ q GO.out ?sB ?sF A2.out).mono ?_); (case sB => exact (by repeat (first | (with_reducible first | exact HB3.out | apply below_alloc | apply pw_below_drewN | apply below_drew1) | exact HB3.out))); (case sF => exact (by (with_reducible repeat (first | refine blk_drewN ?_ _ | refine blk_drew ?_ | refine blk_alloc ?_ _)); exact BO3.out)); rintro e wq ⟨rfl, hbq, hBq⟩; have BOq := Aside0.mk (hbq); have HBq := Aside0.mk (hBq); have hzq : wq.cell? ⟨go, 0, none⟩ = some (.int .i64 q.2) := (blk_cell BOq.out 0).trans rfl; clear hbq hBq))
   go_ret2
   exact ⟨(by first | rfl | (simp; done) | (simp [*]; done)), by repeat (first | (with_reducible first | exact HBq.out | apply below_alloc | apply pw_below_drewN | apply below_drew1) | exact HBq.out)⟩

end Go.Proofs.Yteffcgocnkcpiaa.Q
