import Derived.Test.YteffcgocnkcpiaaDoorQ0
import Derived.Test.YteffcgocnkcpiaaDoorQ28
import Derived.Test.YteffcgocnkcpiaaDoorQ16
import Derived.Test.YteffcgocnkcpiaaDoorQ20
namespace Go.Proofs.YteffcgocnkcpiaaDoor.Q
open Go.RowKit Go.Proofs.YteffcgocnkcpiaaDoorW.PrintWords Go.Proofs.YteffcgocnkcpiaaDoorW.PrintLast Go.Proofs.YteffcgocnkcpiaaDoorW.PrintMore
attribute [local go_sem] max2_int min2_int max_two min_two max_three min_three max_four min_four   -- for this text's walks alone
set_option linter.unusedVariables false
set_option linter.unusedSimpArgs false

/-! ### slices_Clone_int_int: function 45 (proved by hand) -/
/-- A slice's copy. -/
def slices_Clone_int_int.f (l0 : List Int) : Option (List Int) := if l0.length < 17592186044416 then some l0 else none
set_option maxHeartbeats 8000000 in
set_option maxRecDepth 100000 in
theorem slices_Clone_int_int.isnil (a : Option Addr) (n c : Nat) (W : World) : Sem.run Tryd.prog (binOp .eql 22 (.slice a n c) (.slice none 0 0)) W = Result.ok (.bool a.isNone) W := Lib.run_eql_slice_nil W _ _ a n c 0 0 Tryd.underlying22
set_option maxHeartbeats 8000000 in
set_option maxRecDepth 100000 in
theorem slices_Clone_int_int.calls (A0 : Option Addr) (c0 : Nat) (l0 : List Int) (r : List Int) (w : World) (hr0 : Kd.C (Kd.int .i64) w A0 l0.length l0) (hc0 : l0.length ≤ c0) (h : slices_Clone_int_int.f l0 = some r) :
  Calls Tryd.prog 45 #[.slice A0 l0.length c0] w fun e w' => ∃ v0_ : Value, e = .returned (v0_) ∧ Kd.R (Kd.int .i64) 3 w' w.heap.size (fun _ => True) v0_ r ∧ Below w.heap.size w w' := by
 have HR0 := Aside0.mk hr0
 have HC0 := Aside0.mk hc0
 clear hr0 hc0
 have HB := Aside0.mk (Below.refl w.heap.size w)
 have hnil := slices_Clone_int_int.isnil
 unfold slices_Clone_int_int.f at h
 by_cases c2 : l0.length < 17592186044416
 ·rw [if_pos c2] at h
  have LMc2 := Aside0.mk c2
  clear c2
  obtain rfl := Option.some.inj h
  clear h
  cases A0 with
  | none =>
   have hl : l0 = [] := by
    have := HR0.out
    rcases Nat.eq_zero_or_pos l0.length with h0 | h0
    ·exact List.eq_nil_of_length_eq_zero h0
    ·obtain ⟨ad, h, _⟩ := this.2.2 h0
     cases h
   subst hl
   go_enter Tryd.func45, Tryd.ntmps45
   go_wp2
   go_ret
   exact ⟨_, rfl, Kd.R_nil _ _ _ _ _, Below.refl _ _⟩
  | some ad0 =>
   go_enter Tryd.func45, Tryd.ntmps45
   go_wp2_with (first | ((with_reducible refine gate_dst (N := 5) rfl ?_); refine Kd.R_lit (Kd.int .i64) _ 3 ?hg (N := 5) ?hd (xs := ([] : List Int)) (inner := []) (ok := fun _ => True) (okp := fun _ => True) ?hr ?hp (fun _ hk => hk) trivial (Below.refl _ _) (Nat.le_refl _) (by simp) ?_; (case hd => rfl); (case hg => rfl); (case hr => first | (go_simp; done) | (go_simp; rfl)); (case hp => exact (Reps.none _ _)); intro v302 w3 ho4 hb hg_ hnew_; clear hg_ hnew_; have n0_ := Aside0.mk (Kd.R_lower ho4 (below_size (by repeat (first | (with_reducible first | exact HB.out | apply below_alloc | apply pw_below_drewN | apply below_drew1) | exact HB.out)))); have n1_ := Aside0.mk (below_step (by repeat (first | (with_reducible first | exact HB.out | apply below_alloc | apply pw_below_drewN | apply below_drew1) | exact HB.out)) hb); clear HB; have HO303 := n0_; have HB := n1_; clear n0_ n1_; clear hb ho4) | ((with_reducible refine gate_builtin (b := .append) (xs := #[.tmp 5, .tmp 6]) rfl ?_); at_builtin; refine Kd.R_append_rows (Kd.int .i64) (w0 := w) w.heap.size rfl (.tmp 5) (.tmp 6) 22 3 (.int .i64 0) 8 rfl Tryd.underlying22 info3 rfl (by decide) (by omega) v302 ([] : List Int) l0 _ _ _ (fun _ => True) (fun _ => False) rfl rfl ?aO ?aR (fun _ _ h => h) (fun _ h => h.elim) ?aF ?aB ?aS ?aL ?_; (case aR => repeat (first | exact (Kd.C_below HR0.out HB.out) | (with_reducible refine Kd.C_alloc ?_ _) | (with_reducible refine Kd.C_drewN ?_ _) | (with_reducible refine Kd.C_drew ?_))); (case aB => exact (by repeat (first | (with_reducible first | exact HB.out | apply below_alloc | apply pw_below_drewN | apply below_drew1) | exact HB.out))); (case aF => exact (fun _ _ => trivial)); (case aO => exact (by (with_reducible repeat (first | apply Kd.R_alloc | apply Kd.R_drewN | apply Kd.R_drew)); exact HO303.out)); (case aS => exact (below_size (by repeat (first | (with_reducible first | exact HB.out | apply below_alloc | apply pw_below_drewN | apply below_drew1) | exact HB.out)))); (case aL => have := LMc2.out; simp only [List.length_nil]; omega); intro v305 w5 ho hb hg hat; rw [List.nil_append] at ho; have n0_ := Aside0.mk (hb); have n1_ := Aside0.mk (ho); clear HB; clear HO303; have HB := n0_; have HO306 := n1_; clear n0_ n1_; clear ho hb hg hat))
   go_ret
   exact ⟨_, by first | rfl | (simp [errW_none, errW_some] <;> rfl), by (with_reducible repeat (first | apply Kd.R_alloc | apply Kd.R_drewN | apply Kd.R_drew)); exact HO306.out, by repeat (first | (with_reducible first | exact HB.out | apply below_alloc | apply pw_below_drewN | apply below_drew1) | exact HB.out)⟩
 ·rw [if_neg c2] at h
  exact absurd h (by simp)

end Go.Proofs.YteffcgocnkcpiaaDoor.Q
namespace Go.Proofs.YteffcgocnkcpiaaDoor.Q
open Go.RowKit Go.Proofs.YteffcgocnkcpiaaDoorW.PrintWords Go.Proofs.YteffcgocnkcpiaaDoorW.PrintLast Go.Proofs.YteffcgocnkcpiaaDoorW.PrintMore
attribute [local go_sem] max2_int min2_int max_two min_two max_three min_three max_four min_four   -- for this text's walks alone
set_option linter.unusedVariables false
set_option linter.unusedSimpArgs false

/-! ### impl_listed: function 44 -/
def impl_listed.l0 : Nat → Int → List Int → Option (List Int)
 | 0, _, _ => none
 | k + 1, x0, x3 => if x0 > 0 then ((bits_TrailingZeros16.f x0).bind fun t190 => (if x3.length < 17592186044416 then (impl_listed.l0 k (Go.bits .and .u16 x0 (IntKind.u16.wrap (x0 - 1))) (x3 ++ [t190])) else (none))) else (some x3)
def impl_listed.f (k : Nat) (a0 : Int) : Option (List Int) := impl_listed.l0 k a0 (([] : List Int))
theorem impl_listed.mono_l : ∀ k, (∀ y0 y1, LeO (impl_listed.l0 k y0 y1) (impl_listed.l0 (k + 1) y0 y1))
 | 0 => fun _ _ r h => by simp [impl_listed.l0] at h
 | k + 1 => by
  have ih0 := impl_listed.mono_l k
  ·intro y0 y1
   unfold impl_listed.l0
   repeat' first
   | (with_reducible exact ih0 _ _)
   | (with_reducible exact LeO.refl _)
   | (with_reducible exact LeO.none _)
   | (with_reducible refine LeO.ite ?_ ?_)
   | (with_reducible refine LeO.bind ?_ (fun _ => ?_))
   | exact ih0 _ _
   | exact LeO.none _
   | refine LeO.ite ?_ ?_
   | refine LeO.bind ?_ (fun _ => ?_)
theorem impl_listed.mono : ∀ a0 k, LeO (impl_listed.f k a0) (impl_listed.f (k + 1) a0) := by
 intro a0 k
 have ih0 := impl_listed.mono_l k
 unfold impl_listed.f
 repeat' first
   | (with_reducible exact ih0 _ _)
   | (with_reducible exact LeO.refl _)
   | (with_reducible exact LeO.none _)
   | (with_reducible refine LeO.ite ?_ ?_)
   | (with_reducible refine LeO.bind ?_ (fun _ => ?_))
   | exact ih0 _ _
   | exact LeO.none _
   | refine LeO.ite ?_ ?_
   | refine LeO.bind ?_ (fun _ => ?_)
set_option maxHeartbeats 8000000 in
set_option maxRecDepth 100000 in
theorem impl_listed.calls (k : Nat) (a0 : Int) (r : List Int) (w : World) (hG : Tab w) (h : impl_listed.f k a0 = some r) :
  Calls Tryd.prog 44 #[.int .u16 a0] w fun e w' => ∃ v0_ : Value, e = .returned (v0_) ∧ Kd.R (Kd.int .i64) 3 w' w.heap.size (fun _ => True) v0_ r ∧ Below w.heap.size w w' := by
 have HG := Aside0.mk hG
 clear hG
 have HB := Aside0.mk (Below.refl w.heap.size w)
 have H : (impl_listed.l0 k a0 (([] : List Int))) = some r := h
 clear h
 obtain ⟨y187, hy187⟩ : ∃ y_ : List Int, y_ = (([] : List Int)) := ⟨_, rfl⟩
 replace H : (impl_listed.l0 k a0 y187) = some r := by first | (rw [hy187]; with_reducible exact H) | (have H2_ := (Option.bind_some _ _).symm.trans H; rw [hy187]; with_reducible exact H2_) | (have H2_ := (Option.bind_some _ _).symm.trans H; with_reducible exact H2_) | with_reducible exact H | (rw [hy187]; exact H) | exact H
 have Ny187 := Aside0.mk hy187
 clear hy187
 have H' := Aside0.mk H
 clear H
 go_enter Tryd.func44, Tryd.ntmps44
 go_wp2_with (first | ((with_reducible refine gate_dst (N := 4) rfl ?_); refine Kd.R_lit (Kd.int .i64) _ 3 ?hg (N := 4) ?hd (xs := ([] : List Int)) (inner := []) (ok := fun _ => True) (okp := fun _ => True) ?hr ?hp (fun _ hk => hk) trivial (Below.refl _ _) (Nat.le_refl _) (by simp) ?_; (case hd => rfl); (case hg => rfl); (case hr => first | (go_simp; done) | (go_simp; rfl)); (case hp => exact (Reps.none _ _)); intro v188 w2 ho3 hb hg_ hnew_; clear hg_ hnew_; (first | rw [← Ny187.out] at ho3 | (simp only [Int.reduceToNat] at ho3; rw [← Ny187.out] at ho3)); have n0_ := Aside0.mk (Kd.R_lower ho3 (below_size (by repeat (first | (with_reducible first | exact HB.out | apply below_alloc | apply pw_below_drewN | apply below_drew1) | exact HB.out)))); have n1_ := Aside0.mk (below_step (by repeat (first | (with_reducible first | exact HB.out | apply below_alloc | apply pw_below_drewN | apply below_drew1) | exact HB.out)) hb); clear HB; have HO189 := n0_; have HB := n1_; clear n0_ n1_; clear hb ho3))
 go_loopg [0, 3] k (fun kq v0 v3 w' => ∃ (x0_1 : Int) (x3_1 : List Int), v0 = .int .u16 x0_1 ∧ Aside0 (impl_listed.l0 kq x0_1 x3_1 = some r) ∧ Aside0 (kq ≤ k) ∧ Aside0 (Kd.R (Kd.int .i64) 3 w' w.heap.size (fun _ => True) v3 x3_1) ∧ Aside0 (Below w.heap.size w w'))
 case atStart => exact ⟨(a0), (y187), (by first | rfl | (simp; done) | (simp [*]; done)), H', ⟨Nat.le_refl _⟩, ⟨by (with_reducible repeat (first | apply Kd.R_alloc | apply Kd.R_drewN | apply Kd.R_drew)); exact HO189.out⟩, ⟨by repeat (first | (with_reducible first | exact HB.out | apply below_alloc | apply pw_below_drewN | apply below_drew1) | exact HB.out)⟩⟩
 case round =>
  clear H'
  try clear p2
  obtain ⟨x0_1, x3_1, rfl, HA, HK1, HO_3, HB⟩ := hrel
  cases gk with
  | zero => exact absurd HA.out (by simp [impl_listed.l0])
  | succ k1 =>
   have H := HA.out
   clear HA
   simp only [impl_listed.l0] at H
   by_cases c4 : x0_1 > 0
   ·rw [if_pos c4] at H
    have c4b0 : decide (0 < x0_1) = true := decide_eq_true c4
    clear c4
    replace H := Option.bind_eq_some_iff.mp H
    obtain ⟨t190, A50, H⟩ := H
    replace H : (if x3_1.length < 17592186044416 then (impl_listed.l0 k1 (Go.bits .and .u16 x0_1 (IntKind.u16.wrap (x0_1 - 1))) (x3_1 ++ [t190])) else (none)) = some r := H
    have A5 := Aside0.mk A50
    clear A50
    by_cases c6 : x3_1.length < 17592186044416
    ·rw [if_pos c6] at H
     have LMc6 := Aside0.mk c6
     clear c6
     obtain ⟨y191, hy191⟩ : ∃ y_ : List Int, y_ = (x3_1 ++ [t190]) := ⟨_, rfl⟩
     replace H : (impl_listed.l0 k1 (Go.bits .and .u16 x0_1 (IntKind.u16.wrap (x0_1 - 1))) y191) = some r := by first | (rw [hy191]; with_reducible exact H) | (have H2_ := (Option.bind_some _ _).symm.trans H; rw [hy191]; with_reducible exact H2_) | (have H2_ := (Option.bind_some _ _).symm.trans H; with_reducible exact H2_) | with_reducible exact H | (rw [hy191]; exact H) | exact H
     have Ny191 := Aside0.mk hy191
     clear hy191
     have H' := Aside0.mk H
     clear H
     go_wp2_with (first | ((with_reducible refine gate_callee (f := 49) rfl ?_); refine goesL_ (some 13) rfl rfl Tryd.func49 (by kernel_rfl) rfl #[.int .u16 x0_1] rfl (by (try simp only [List.map_toArray, List.map_cons, List.map_nil]); first | done | rfl | (simp only [List.length_drop, List.length_take]; rfl)) ?_; (with_reducible refine (bits_TrailingZeros16.calls x0_1 t190 _ ?sideG A5.out).mono ?_); (case sideG => first | exact HG.out | exact Tab.below HG.out (by repeat (first | (with_reducible first | exact HB.out | apply below_alloc | apply pw_below_drewN | apply below_drew1) | exact HB.out))); rintro e w' ⟨rfl, ⟨nd, rfl⟩⟩; refine ⟨_, rfl, ?_⟩) | ((with_reducible refine gate_builtin (b := .append) (xs := #[.tmp 11, .tmp 14]) rfl ?_); at_builtin; refine Kd.R_append (Kd.int .i64) (w0 := w) w.heap.size rfl (.tmp 11) (.tmp 14) 22 3 (.int .i64 0) 8 rfl Tryd.underlying22 info3 rfl (by decide) (by omega) u3 x3_1 t190 [.int .i64 t190] (fun _ => True) (fun _ => False) rfl rfl ?aP (fun _ hk => hk.elim) ?aF ?aO ?aB ?aS ?aL ?_; (case aP => exact rfl); (case aB => exact (by repeat (first | (with_reducible first | exact HB.out | apply below_alloc | apply pw_below_drewN | apply below_drew1) | exact HB.out))); (case aF => exact (fun _ _ => trivial)); (case aO => exact (by (with_reducible repeat (first | apply Kd.R_alloc | apply Kd.R_drewN | apply Kd.R_drew)); exact HO_3.out)); (case aS => exact (below_size (by repeat (first | (with_reducible first | exact HB.out | apply below_alloc | apply pw_below_drewN | apply below_drew1) | exact HB.out)))); (case aL => have := LMc6.out; omega); intro v192 w7 ho hb hg hat; rw [← Ny191.out] at ho; have n0_ := Aside0.mk (hb); have n1_ := Aside0.mk (ho); clear HB; clear HO_3; have HB := n0_; have HO193 := n1_; clear n0_ n1_; clear ho hb hg hat))
     go_roundg k1
     case measure => have := HK1.out; omega
     case rel => exact ⟨(Go.bits .and .u16 x0_1 (IntKind.u16.wrap (x0_1 - 1))), (y191), (by first | rfl | (simp; done) | (simp [*]; done)), H', ⟨by have := HK1.out; omega⟩, ⟨by (with_reducible repeat (first | apply Kd.R_alloc | apply Kd.R_drewN | apply Kd.R_drew)); exact HO193.out⟩, ⟨by repeat (first | (with_reducible first | exact HB.out | apply below_alloc | apply pw_below_drewN | apply below_drew1) | exact HB.out)⟩⟩
    ·rw [if_neg c6] at H
     exact absurd H (by simp)
   ·rw [if_neg c4] at H
    have c4b0 : decide (0 < x0_1) = false := decide_eq_false c4
    clear c4
    obtain rfl := Option.some.inj H
    go_wp2
    go_ret
    exact ⟨_, by first | rfl | (simp [errW_none, errW_some] <;> rfl) | (simp [*, errW_none, errW_some] <;> rfl), by (with_reducible repeat (first | apply Kd.R_alloc | apply Kd.R_drewN | apply Kd.R_drew)); exact HO_3.out, by repeat (first | (with_reducible first | exact HB.out | apply below_alloc | apply pw_below_drewN | apply below_drew1) | exact HB.out)⟩

end Go.Proofs.YteffcgocnkcpiaaDoor.Q
namespace Go.Proofs.YteffcgocnkcpiaaDoor.Q
open Go.RowKit Go.Proofs.YteffcgocnkcpiaaDoorW.PrintWords Go.Proofs.YteffcgocnkcpiaaDoorW.PrintLast Go.Proofs.YteffcgocnkcpiaaDoorW.PrintMore
attribute [local go_sem] max2_int min2_int max_two min_two max_three min_three max_four min_four   -- for this text's walks alone
set_option linter.unusedVariables false
set_option linter.unusedSimpArgs false

/-! ### impl_table_put: function 42 -/
def impl_table_put.f (l0 : List Int) (a1 : Int) (a2 : Int) : Option (List Int) := if 0 ≤ a1 then (if a1 < (l0.length : Int) then (if 0 ≤ a2 then ((some (l0.set (a1 : Int).toNat (Go.bits .or .u16 (rd l0 a1) (shl .u16 1 a2)) : List Int)).bind fun y178 => (if a2 < (l0.length : Int) then (some (y178.set (a2 : Int).toNat (Go.bits .or .u16 (rd y178 a2) (shl .u16 1 a1)))) else (none))) else (none)) else (none)) else (none)
def impl_table_put.T0 : Bool × List (List Nat × List Nat) := (true, [([], []), ([], []), ([0, 1], [0, 1]), ([2], [2]), ([], []), ([4], [4]), ([3, 5], [3, 5]), ([0, 1, 0, 1, 2, 3, 4, 5, 6], [0, 1]), ([7, 6, 0, 1, 2, 3, 4, 5, 6], [6, 7])])
def impl_table_put.B0 : List Nat := [0, 0, 3, 7, 0, 16, 63, 127, 255]
theorem impl_table_put.tab0 : rtab .any (opsOf Tryd.f42 0) = impl_table_put.T0 := by kernel_rfl
theorem impl_table_put.bits0 : waitsOk impl_table_put.T0.2 impl_table_put.B0 = true := by kernel_rfl
def impl_table_put.T1 : Bool × List (List Nat × List Nat) := (true, [([], []), ([], []), ([0, 1], [0, 1]), ([2], [2]), ([], []), ([4], [4]), ([3, 5], [3, 5]), ([0, 1, 0, 1, 2, 3, 4, 5, 6], [0, 1]), ([7, 6, 0, 1, 2, 3, 4, 5, 6], [6, 7])])
def impl_table_put.B1 : List Nat := [0, 0, 3, 7, 0, 16, 63, 127, 255]
theorem impl_table_put.tab1 : rtab .any (opsOf Tryd.f42 1) = impl_table_put.T1 := by kernel_rfl
theorem impl_table_put.bits1 : waitsOk impl_table_put.T1.2 impl_table_put.B1 = true := by kernel_rfl
set_option maxHeartbeats 8000000 in
set_option maxRecDepth 100000 in
theorem impl_table_put.calls (P0_ : Nat → Prop) (u9000_ : Value) (l0 : List Int) (a1 : Int) (a2 : Int) (r : List Int) (w0 w : World) (hB : Below w0.heap.size w0 w) (ho0 : Kd.R (Kd.int .u16) 57 w w0.heap.size P0_ u9000_ l0) (h : impl_table_put.f l0 a1 a2 = some r) :
  Calls Tryd.prog 42 #[u9000_, .int .i64 a1, .int .i64 a2] w fun e w' => e = .returned (.tuple #[]) ∧ Kd.R (Kd.int .u16) 57 w' w0.heap.size (fun k_ => (P0_ k_ ∨ w.heap.size ≤ k_)) u9000_ r ∧ Below w0.heap.size w0 w' ∧ Kept w w' (fun k_ => P0_ k_) := by
 have HO0 := Aside0.mk (show Kd.R (Kd.int .u16) 57 w w0.heap.size (fun k_ => (P0_ k_ ∨ w.heap.size ≤ k_)) u9000_ l0 from Kd.R_mono ho0 (fun k_ hk => (.inl hk)))
 have HK := Aside0.mk (Kept.refl w (fun k_ => P0_ k_))
 have HW0 := Aside0.mk hB.size
 have HB := Aside0.mk hB
 clear hB
 have H : (if 0 ≤ a1 then (if a1 < (l0.length : Int) then (if 0 ≤ a2 then ((some (l0.set (a1 : Int).toNat (Go.bits .or .u16 (rd l0 a1) (shl .u16 1 a2)) : List Int)).bind fun y178 => (if a2 < (l0.length : Int) then (some (y178.set (a2 : Int).toNat (Go.bits .or .u16 (rd y178 a2) (shl .u16 1 a1)))) else (none))) else (none)) else (none)) else (none)) = some r := h
 clear h
 by_cases c4 : 0 ≤ a1
 ·rw [if_pos c4] at H
  have c4b0 : decide (0 ≤ a1) = true := decide_eq_true c4
  clear c4
  by_cases c5 : a1 < (l0.length : Int)
  ·rw [if_pos c5] at H
   have c5b0 : decide (a1 < (l0.length : Int)) = true := decide_eq_true c5
   clear c5
   by_cases c6 : 0 ≤ a2
   ·rw [if_pos c6] at H
    have c6b0 := eq_true c6
    have c6b1 : decide (0 ≤ a2) = true := decide_eq_true c6
    clear c6
    obtain ⟨ji7, hji7⟩ : ∃ j_ : Int, (shl .u16 1 a2) = j_ := ⟨_, rfl⟩
    replace H : ((some (l0.set (a1 : Int).toNat (Go.bits .or .u16 (rd l0 a1) (ji7)) : List Int)).bind fun y178 => (if a2 < (l0.length : Int) then (some (y178.set (a2 : Int).toNat (Go.bits .or .u16 (rd y178 a2) (shl .u16 1 a1)))) else (none))) = some r := by first | (rw [hji7] at H; exact H) | (simp only [hji7] at H ⊢; exact H)
    have hji7_ : (IntKind.u16.wrap (1 * 2 ^ min a2.toNat 16)) = ji7 := hji7
    have hji7z : a2 ≤ 16 → (IntKind.u16.wrap (1 * 2 ^ a2.toNat)) = ji7 := shl_small hji7
    have hji7u : (IntKind.u16.wrap (2 ^ min a2.toNat 16)) = ji7 := by have h_ := hji7_; rw [Int.one_mul] at h_; exact h_
    have hji7v : a2 ≤ 16 → (IntKind.u16.wrap (2 ^ a2.toNat)) = ji7 := fun hle_ => by have h_ := hji7z hle_; rw [Int.one_mul] at h_; exact h_
    obtain ⟨y178, hy178⟩ : ∃ y_ : List Int, y_ = (l0.set (a1 : Int).toNat (Go.bits .or .u16 (rd l0 a1) (ji7))) := ⟨_, rfl⟩
    replace H : (if a2 < (l0.length : Int) then (some (y178.set (a2 : Int).toNat (Go.bits .or .u16 (rd y178 a2) (shl .u16 1 a1)))) else (none)) = some r := by first | (rw [hy178]; with_reducible exact H) | (have H2_ := (Option.bind_some _ _).symm.trans H; rw [hy178]; with_reducible exact H2_) | (have H2_ := (Option.bind_some _ _).symm.trans H; with_reducible exact H2_) | with_reducible exact H | (rw [hy178]; exact H) | exact H
    have Ny178 := Aside0.mk hy178
    clear hy178
    by_cases c9 : a2 < (l0.length : Int)
    ·rw [if_pos c9] at H
     have c9b0 : decide (a2 < (l0.length : Int)) = true := decide_eq_true c9
     clear c9
     have c10b0 := eq_true (of_decide_eq_true (by first | (with_reducible assumption) | assumption) : 0 ≤ a1)
     obtain ⟨ji11, hji11⟩ : ∃ j_ : Int, (shl .u16 1 a1) = j_ := ⟨_, rfl⟩
     replace H : (some (y178.set (a2 : Int).toNat (Go.bits .or .u16 (rd y178 a2) (ji11)))) = some r := by first | (rw [hji11] at H; exact H) | (simp only [hji11] at H ⊢; exact H)
     have hji11_ : (IntKind.u16.wrap (1 * 2 ^ min a1.toNat 16)) = ji11 := hji11
     have hji11z : a1 ≤ 16 → (IntKind.u16.wrap (1 * 2 ^ a1.toNat)) = ji11 := shl_small hji11
     have hji11u : (IntKind.u16.wrap (2 ^ min a1.toNat 16)) = ji11 := by have h_ := hji11_; rw [Int.one_mul] at h_; exact h_
     have hji11v : a1 ≤ 16 → (IntKind.u16.wrap (2 ^ a1.toNat)) = ji11 := fun hle_ => by have h_ := hji11z hle_; rw [Int.one_mul] at h_; exact h_
     obtain ⟨y180, hy180⟩ : ∃ y_ : List Int, y_ = (y178.set (a2 : Int).toNat (Go.bits .or .u16 (rd y178 a2) (ji11))) := ⟨_, rfl⟩
     replace H : (some y180) = some r := by first | (rw [hy180]; with_reducible exact H) | (have H2_ := (Option.bind_some _ _).symm.trans H; rw [hy180]; with_reducible exact H2_) | (have H2_ := (Option.bind_some _ _).symm.trans H; with_reducible exact H2_) | with_reducible exact H | (rw [hy180]; exact H) | exact H
     have Ny180 := Aside0.mk hy180
     clear hy180
     obtain rfl := Option.some.inj H
     go_enter Tryd.func42, Tryd.ntmps42
     try go_wp2
     have n0_ := Aside0.mk (Kd.R_drew HO0.out)
     have n1_ := Aside0.mk (Kept.drew HK.out)
     have n2_ := Aside0.mk (below_drew1 HB.out)
     clear HO0
     clear HK
     clear HB
     have HO0 := n0_
     have HK := n1_
     have HB := n2_
     clear n0_ n1_ n2_
     obtain ⟨Ao14, co14, eo14⟩ := Kd.R_slice HO0.out
     (first | subst eo14 | (injection eo14 with f1_ f2_ f3_; have f4_ := f1_.symm; have f5_ := f3_.symm; clear f1_ f2_ f3_; subst f4_; subst f5_))
     have p177 : 0 ≤ (a1 : Int) := of_decide_eq_true (by first | (with_reducible assumption) | assumption)
     have q177 : a1 < (l0.length : Int) := of_decide_eq_true (by first | (with_reducible assumption) | assumption)
     obtain ⟨ad177, e177, hx177_0⟩ := Kd.at_int (Kd.R_reads' HO0.out).2.2 a1 p177 q177
     cases e177
     replace p177 := eq_true p177
     replace q177 := eq_true q177
     have p8 : 0 ≤ (a1 : Int) := of_decide_eq_true (by first | (with_reducible assumption) | assumption)
     have q8 : (a1 : Int) < ((l0.length : Int) : Int) := of_decide_eq_true (by first | (with_reducible assumption) | assumption)
     obtain ⟨go8, co8, eo8, gb8, gl8, cl8, HG8⟩ := Kd.R_form HO0.out (by omega)
     (first | cases eo8 | (injection eo8 with ea_ en_ ec_; (first | subst ea_ | (injection ea_ with ea_; subst ea_)); subst ec_; clear en_))
     have GB8 := Aside0.mk gb8
     have GG8 := Aside0.mk HG8
     clear gb8 gl8 HG8
     have HMgo8 := Aside0.mk (show (P0_ go8 ∨ w.heap.size ≤ go8) from (HO0.out.1 _ rfl))
     (first | simp only [add_plain] at hx177_0 | skip)
     obtain ⟨hx8_0, hf8_0⟩ := Kd.R_celln 0 HO0.out (a1 : Int) p8 q8
     replace p8 := eq_true p8
     replace q8 := eq_true q8
     have HP15 := Kd.R_putn HO0.out (a1 : Int) (Go.bits .or .u16 (rd l0 a1) (ji7))
     rw [← Ny178.out] at HP15
     have HQ15 := Aside0.mk HP15
     clear HP15
     refine start_ (n := 9) (S := fun w' => w'.cell? ⟨go8, (a1).toNat, none⟩ = some (.int .u16 (rd l0 a1))) (ds := [8]) #[false, false, false, false, false, false, false, false, false] (by kernel_rfl) rfl rfl (hx177_0) (fun hHeld => ?_); refine with_tabW impl_table_put.tab0 impl_table_put.bits0 (fun HT_ HW_ => ?_)
     generalize w.drew = w13 at HO0 HK HB GG8 HQ15 hf8_0 hx177_0 hx8_0 hHeld ⊢
     refine pure_ (i := 0) (N := some 6) (v := ?_) (a' := ?_) #[true, false, false, false, false, false, false, false, false] rfl rfl (any_of HT_.out (by kernel_rfl)) (fun _ _ _ h => h) (Or.inl ⟨by rfl, ?_⟩) ?_ ?_
     rotate_left
     ·intro w'
      go_simp
      with_reducible rfl
     rotate_left
     ·simp only [Act.put, List.setIfInBounds_toArray, List.set_cons_zero, List.set_cons_succ, i64_w, i32_w]
      rfl
     refine pure_ (i := 1) (N := some 7) (v := ?_) (a' := ?_) #[true, true, false, false, false, false, false, false, false] rfl rfl (any_of HT_.out (by kernel_rfl)) (fun _ _ _ h => h) (Or.inl ⟨by rfl, ?_⟩) ?_ ?_
     rotate_left
     ·intro w'
      go_simp
      with_reducible rfl
     rotate_left
     ·simp only [Act.put, List.setIfInBounds_toArray, List.set_cons_zero, List.set_cons_succ, i64_w, i32_w]
      rfl
     refine pure_ (i := 2) (N := some 8) (v := ?_) (a' := ?_) #[true, true, true, false, false, false, false, false, false] rfl rfl (any_of HT_.out (by kernel_rfl)) (fun _ _ _ h => h) (Or.inl ⟨by rfl, ?_⟩) ?_ ?_
     rotate_left
     ·intro w'
      go_simp
      with_reducible rfl
     rotate_left
     ·simp only [Act.put, List.setIfInBounds_toArray, List.set_cons_zero, List.set_cons_succ, i64_w, i32_w]
      rfl
     refine pure_ (i := 4) (N := some 10) (v := ?_) (a' := ?_) #[true, true, true, false, true, false, false, false, false] rfl rfl (any_of HT_.out (by kernel_rfl)) (fun _ _ _ h => h) (Or.inl ⟨by rfl, ?_⟩) ?_ ?_
     rotate_left
     ·intro w'
      go_simp
      with_reducible rfl
     rotate_left
     ·simp only [Act.put, List.setIfInBounds_toArray, List.set_cons_zero, List.set_cons_succ, i64_w, i32_w]
      rfl
     refine pure_ (i := 5) (N := some 11) (v := ?_) (a' := ?_) #[true, true, true, false, true, true, false, false, false] rfl rfl (any_of HT_.out (by kernel_rfl)) (fun _ _ _ h => h) (Or.inl ⟨by rfl, ?_⟩) ?_ ?_
     rotate_left
     ·intro w'
      go_simp
      with_reducible rfl
     rotate_left
     ·simp only [Act.put, List.setIfInBounds_toArray, List.set_cons_zero, List.set_cons_succ, i64_w, i32_w]
      rfl
     refine take_ (i := 3) (N := some 9) (v := ?_) (a' := ?_) #[true, true, true, true, true, true, false, false, false] rfl rfl (take_ofW HT_.out HW_.out (by kernel_rfl)) (fun _ _ _ h => h) (Or.inl ⟨by rfl, ?_⟩) hHeld ?_ ?_
     rotate_left
     ·intro w' s0
      go_simp
      with_reducible rfl
     rotate_left
     ·simp only [Act.put, List.setIfInBounds_toArray, List.set_cons_zero, List.set_cons_succ, i64_w, i32_w]
      rfl
     refine pure_ (i := 6) (N := some 12) (v := ?_) (a' := ?_) #[true, true, true, true, true, true, true, false, false] rfl rfl (any_of HT_.out (by kernel_rfl)) (fun _ _ _ h => h) (Or.inl ⟨by rfl, ?_⟩) ?_ ?_
     rotate_left
     ·intro w'
      go_simp
      with_reducible rfl
     rotate_left
     ·simp only [Act.put, List.setIfInBounds_toArray, List.set_cons_zero, List.set_cons_succ, i64_w, i32_w]
      rfl
     refine pure_ (i := 7) (N := some 13) (v := ?_) (a' := ?_) #[true, true, true, true, true, true, true, true, false] rfl rfl (any_of HT_.out (by kernel_rfl)) (fun _ _ _ h => h) (Or.inl ⟨by rfl, ?_⟩) ?_ ?_
     rotate_left
     ·intro w'
      go_simp
      with_reducible rfl
     rotate_left
     ·simp only [Act.put, List.setIfInBounds_toArray, List.set_cons_zero, List.set_cons_succ, i64_w, i32_w]
      rfl
     refine last_ (i := 8) (N := none) #[true, true, true, true, true, true, true, true, true] rfl rfl (one_of HT_.out (by kernel_rfl)) (by decide) (fun K hK => ?_)
     refine skip_ (w1 := ?_) (by rfl) rfl ?_ ?_
     rotate_left
     ·go_simp
      rfl
     refine hK.out _ _ ?_
     clear hK K
     refine done_ (done_of HT_.out (by kernel_rfl)) ?_
     try go_wp2
     have n0_ : Aside0 (Kd.R (Kd.int .u16) 57 (w13.setCell ⟨go8, (a1 : Int).toNat, none⟩ (.int .u16 (Go.bits .or .u16 (rd l0 a1) (ji7)))) w0.heap.size (fun k_ => (P0_ k_ ∨ w.heap.size ≤ k_)) (.slice (some ⟨go8, 0, none⟩) l0.length co14) y178) := ⟨by (with_reducible repeat (first | apply Kd.R_alloc | apply Kd.R_drewN | apply Kd.R_drew)); exact HQ15.out⟩
     have n1_ : Aside0 (Kept w (w13.setCell ⟨go8, (a1 : Int).toNat, none⟩ (.int .u16 (Go.bits .or .u16 (rd l0 a1) (ji7)))) (fun k_ => P0_ k_)) := ⟨by repeat (first | (with_reducible first | exact HK.out | apply Kept.alloc | apply Kept.drewN | apply Kept.drew | refine Kept.setCell ?_ HMgo8.out _) | exact HK.out)⟩
     have n2_ : Aside0 (Below w0.heap.size w0 (w13.setCell ⟨go8, (a1 : Int).toNat, none⟩ (.int .u16 (Go.bits .or .u16 (rd l0 a1) (ji7))))) := ⟨by repeat (first | (with_reducible first | exact HB.out | apply below_alloc | apply pw_below_drewN | apply below_drew1 | refine below_set ?_ GB8.out) | exact HB.out)⟩
     (try clear HO0)
     (try clear HK)
     (try clear HB)
     generalize (w13.setCell ⟨go8, (a1 : Int).toNat, none⟩ (.int .u16 (Go.bits .or .u16 (rd l0 a1) (ji7)))) = w16 at n0_ n1_ n2_ ⊢
     have HO0 := n0_
     have HK := n1_
     have HB := n2_
     clear n0_ n1_ n2_
     have n0_ := Aside0.mk (Kd.R_drew HO0.out)
     have n1_ := Aside0.mk (Kept.drew HK.out)
     have n2_ := Aside0.mk (below_drew1 HB.out)
     clear HO0
     clear HK
     clear HB
     have HO0 := n0_
     have HK := n1_
     have HB := n2_
     clear n0_ n1_ n2_
     have p179 : 0 ≤ (a2 : Int) := of_decide_eq_true (by first | (with_reducible assumption) | assumption)
     have q179 : a2 < (y178.length : Int) := (by have h_ : (a2 : Int) < ((l0.length : Int) : Int) := of_decide_eq_true (by first | (with_reducible assumption) | assumption); first | (have e_ := (Kd.R_reads' HO0.out).1; omega) | simpa only [Ny178.out, List.length_set] using h_)
     have ql179 : ((a2 : Int) < ((l0.length : Int) : Int)) = True := eq_true (of_decide_eq_true (by first | (with_reducible assumption) | assumption))
     obtain ⟨ad179, e179, hx179_0⟩ := Kd.at_int (Kd.R_reads' HO0.out).2.2 a2 p179 q179
     obtain rfl : (⟨go8, 0, none⟩ : Addr) = ad179 := (by injection e179)
     (first | simp only [add_plain] at hx179_0 | simp only [add_at] at hx179_0 | simp only [Addr.add, Nat.zero_add] at hx179_0 | skip)
     replace p179 := eq_true p179
     replace q179 := eq_true q179
     have p12 : 0 ≤ (a2 : Int) := of_decide_eq_true (by first | (with_reducible assumption) | assumption)
     have q12 : (a2 : Int) < ((l0.length : Int) : Int) := of_decide_eq_true (by first | (with_reducible assumption) | assumption)
     obtain ⟨hx12_0, hf12_0⟩ := Kd.R_celln 0 HO0.out (a2 : Int) p12 q12
     replace p12 := eq_true p12
     replace q12 := eq_true q12
     have HP18 := Kd.R_putn HO0.out (a2 : Int) (Go.bits .or .u16 (rd y178 a2) (ji11))
     rw [← Ny180.out] at HP18
     have HQ18 := Aside0.mk HP18
     clear HP18
     refine start_ (n := 9) (S := fun w' => w'.cell? ⟨go8, (a2).toNat, none⟩ = some (.int .u16 (rd y178 a2))) (ds := [8]) #[false, false, false, false, false, false, false, false, false] (by kernel_rfl) rfl rfl (hx179_0) (fun hHeld => ?_); refine with_tabW impl_table_put.tab1 impl_table_put.bits1 (fun HT_ HW_ => ?_)
     generalize w16.drew = w17 at HO0 HK HB HQ15 HQ18 hf12_0 hx12_0 hx179_0 hHeld ⊢
     refine pure_ (i := 0) (N := some 14) (v := ?_) (a' := ?_) #[true, false, false, false, false, false, false, false, false] rfl rfl (any_of HT_.out (by kernel_rfl)) (fun _ _ _ h => h) (Or.inl ⟨by rfl, ?_⟩) ?_ ?_
     rotate_left
     ·intro w'
      go_simp
      with_reducible rfl
     rotate_left
     ·simp only [Act.put, List.setIfInBounds_toArray, List.set_cons_zero, List.set_cons_succ, i64_w, i32_w]
      rfl
     refine pure_ (i := 1) (N := some 15) (v := ?_) (a' := ?_) #[true, true, false, false, false, false, false, false, false] rfl rfl (any_of HT_.out (by kernel_rfl)) (fun _ _ _ h => h) (Or.inl ⟨by rfl, ?_⟩) ?_ ?_
     rotate_left
     ·intro w'
      go_simp
      with_reducible rfl
     rotate_left
     ·simp only [Act.put, List.setIfInBounds_toArray, List.set_cons_zero, List.set_cons_succ, i64_w, i32_w]
      rfl
     refine pure_ (i := 2) (N := some 16) (v := ?_) (a' := ?_) #[true, true, true, false, false, false, false, false, false] rfl rfl (any_of HT_.out (by kernel_rfl)) (fun _ _ _ h => h) (Or.inl ⟨by rfl, ?_⟩) ?_ ?_
     rotate_left
     ·intro w'
      go_simp
      with_reducible rfl
     rotate_left
     ·simp only [Act.put, List.setIfInBounds_toArray, List.set_cons_zero, List.set_cons_succ, i64_w, i32_w]
      rfl
     refine pure_ (i := 4) (N := some 18) (v := ?_) (a' := ?_) #[true, true, true, false, true, false, false, false, false] rfl rfl (any_of HT_.out (by kernel_rfl)) (fun _ _ _ h => h) (Or.inl ⟨by rfl, ?_⟩) ?_ ?_
     rotate_left
     ·intro w'
      go_simp
      with_reducible rfl
     rotate_left
     ·simp only [Act.put, List.setIfInBounds_toArray, List.set_cons_zero, List.set_cons_succ, i64_w, i32_w]
      rfl
     refine pure_ (i := 5) (N := some 19) (v := ?_) (a' := ?_) #[true, true, true, false, true, true, false, false, false] rfl rfl (any_of HT_.out (by kernel_rfl)) (fun _ _ _ h => h) (Or.inl ⟨by rfl, ?_⟩) ?_ ?_
     rotate_left
     ·intro w'
      go_simp
      with_reducible rfl
     rotate_left
     ·simp only [Act.put, List.setIfInBounds_toArray, List.set_cons_zero, List.set_cons_succ, i64_w, i32_w]
      rfl
     refine take_ (i := 3) (N := some 17) (v := ?_) (a' := ?_) #[true, true, true, true, true, true, false, false, false] rfl rfl (take_ofW HT_.out HW_.out (by kernel_rfl)) (fun _ _ _ h => h) (Or.inl ⟨by rfl, ?_⟩) hHeld ?_ ?_
     rotate_left
     ·intro w' s0
      go_simp
      with_reducible rfl
     rotate_left
     ·simp only [Act.put, List.setIfInBounds_toArray, List.set_cons_zero, List.set_cons_succ, i64_w, i32_w]
      rfl
     refine pure_ (i := 6) (N := some 20) (v := ?_) (a' := ?_) #[true, true, true, true, true, true, true, false, false] rfl rfl (any_of HT_.out (by kernel_rfl)) (fun _ _ _ h => h) (Or.inl ⟨by rfl, ?_⟩) ?_ ?_
     rotate_left
     ·intro w'
      go_simp
      with_reducible rfl
     rotate_left
     ·simp only [Act.put, List.setIfInBounds_toArray, List.set_cons_zero, List.set_cons_succ, i64_w, i32_w]
      rfl
     refine pure_ (i := 7) (N := some 21) (v := ?_) (a' := ?_) #[true, true, true, true, true, true, true, true, false] rfl rfl (any_of HT_.out (by kernel_rfl)) (fun _ _ _ h => h) (Or.inl ⟨by rfl, ?_⟩) ?_ ?_
     rotate_left
     ·intro w'
      go_simp
      with_reducible rfl
     rotate_left
     ·simp only [Act.put, List.setIfInBounds_toArray, List.set_cons_zero, List.set_cons_succ, i64_w, i32_w]
      rfl
     refine last_ (i := 8) (N := none) #[true, true, true, true, true, true, true, true, true] rfl rfl (one_of HT_.out (by kernel_rfl)) (by decide) (fun K hK => ?_)
     refine skip_ (w1 := ?_) (by rfl) rfl ?_ ?_
     rotate_left
     ·go_simp
      rfl
     refine hK.out _ _ ?_
     clear hK K
     refine done_ (done_of HT_.out (by kernel_rfl)) ?_
     try go_wp2
     first | go_end0 | ((try simp only [Exit.inBlock, Exit.then]); refine bodyPost_ret (results_none rfl _ _ _) rfl ?_)
     exact ⟨by first | rfl | (simp [errW_none, errW_some] <;> rfl) | (simp only [← hji7, ← hji11]; first | rfl | (simp [errW_none, errW_some] <;> rfl)) | (simp [*, errW_none, errW_some] <;> rfl), by (with_reducible repeat (first | apply Kd.R_alloc | apply Kd.R_drewN | apply Kd.R_drew)); exact HQ18.out, by repeat (first | (with_reducible first | exact HB.out | apply below_alloc | apply pw_below_drewN | apply below_drew1 | refine below_set ?_ GB8.out) | exact HB.out), by repeat (first | (with_reducible first | exact HK.out | apply Kept.alloc | apply Kept.drewN | apply Kept.drew | refine Kept.setCell ?_ HMgo8.out _) | exact HK.out)⟩
    ·rw [if_neg c9] at H
     exact absurd H (by simp)
   ·rw [if_neg c6] at H
    exact absurd H (by simp)
  ·rw [if_neg c5] at H
   exact absurd H (by simp)
 ·rw [if_neg c4] at H
  exact absurd H (by simp)

end Go.Proofs.YteffcgocnkcpiaaDoor.Q
namespace Go.Proofs.YteffcgocnkcpiaaDoor.Q
open Go.RowKit Go.Proofs.YteffcgocnkcpiaaDoorW.PrintWords Go.Proofs.YteffcgocnkcpiaaDoorW.PrintLast Go.Proofs.YteffcgocnkcpiaaDoorW.PrintMore
attribute [local go_sem] max2_int min2_int max_two min_two max_three min_three max_four min_four   -- for this text's walks alone
set_option linter.unusedVariables false
set_option linter.unusedSimpArgs false

/-! ### impl_place: function 48 -/
def impl_place.f (a0 : Int) (a1 : Int) (a2 : Int) : Option (Int) := some (wrap64 ((wrap64 ((wrap64 ((wrap64 (Int.tdiv (wrap64 ((mn a1 a2) * (wrap64 ((wrap64 ((wrap64 (2 * a0)) - (mn a1 a2))) - 1)))) 2)) + (mx a1 a2))) - (mn a1 a2))) - 1))
set_option maxHeartbeats 8000000 in
set_option maxRecDepth 100000 in
theorem impl_place.calls (a0 : Int) (a1 : Int) (a2 : Int) (r : Int) (w : World) (h : impl_place.f a0 a1 a2 = some r) :
  Calls Tryd.prog 48 #[.int .i64 a0, .int .i64 a1, .int .i64 a2] w fun e w' => e = .returned (.int .i64 r) ∧ Below w.heap.size w w' := by
 have HB := Aside0.mk (Below.refl w.heap.size w)
 have H : (some (wrap64 ((wrap64 ((wrap64 ((wrap64 (Int.tdiv (wrap64 ((mn a1 a2) * (wrap64 ((wrap64 ((wrap64 (2 * a0)) - (mn a1 a2))) - 1)))) 2)) + (mx a1 a2))) - (mn a1 a2))) - 1))) = some r := h
 clear h
 obtain ⟨ji4, hji4⟩ : ∃ j_ : Int, (mn a1 a2) = j_ := ⟨_, rfl⟩
 replace H : (some (wrap64 ((wrap64 ((wrap64 ((wrap64 (Int.tdiv (wrap64 ((ji4) * (wrap64 ((wrap64 ((wrap64 (2 * a0)) - (ji4))) - 1)))) 2)) + (mx a1 a2))) - (ji4))) - 1))) = some r := by first | (rw [hji4] at H; exact H) | (simp only [hji4] at H ⊢; exact H)
 have hji4_ : (if a2 < a1 then a2 else a1) = ji4 := hji4
 obtain ⟨ji5, hji5⟩ : ∃ j_ : Int, (mx a1 a2) = j_ := ⟨_, rfl⟩
 replace H : (some (wrap64 ((wrap64 ((wrap64 ((wrap64 (Int.tdiv (wrap64 ((ji4) * (wrap64 ((wrap64 ((wrap64 (2 * a0)) - (ji4))) - 1)))) 2)) + (ji5))) - (ji4))) - 1))) = some r := by first | (rw [hji5] at H; exact H) | (simp only [hji5] at H ⊢; exact H)
 have hji5_ : (if a1 < a2 then a2 else a1) = ji5 := hji5
 obtain rfl := Option.some.inj H
 go_enter Tryd.func48, Tryd.ntmps48
 go_wp2
 go_ret
 exact ⟨by first | rfl | (simp [errW_none, errW_some] <;> rfl) | (simp only [← hji4, ← hji5]; first | rfl | (simp [errW_none, errW_some] <;> rfl)) | (simp [*, errW_none, errW_some] <;> rfl), by repeat (first | (with_reducible first | exact HB.out | apply below_alloc | apply pw_below_drewN | apply below_drew1) | exact HB.out)⟩

end Go.Proofs.YteffcgocnkcpiaaDoor.Q
namespace Go.Proofs.YteffcgocnkcpiaaDoor.Q
open Go.RowKit Go.Proofs.YteffcgocnkcpiaaDoorW.PrintWords Go.Proofs.YteffcgocnkcpiaaDoorW.PrintLast Go.Proofs.YteffcgocnkcpiaaDoorW.PrintMore
attribute [local go_sem] max2_int min2_int max_two min_two max_three min_three max_four min_four   -- for this text's walks alone
set_option linter.unusedVariables false
set_option linter.unusedSimpArgs false

/-! ### impl_Painting_of: function 41 -/
def impl_Painting_of.f (a0_0 : Int) (a0_1 : Int) (l0_2 : List Int) (a1 : Int) (a2 : Int) : Option (Int) := (impl_place.f a0_0 a1 a2).bind fun t175 => (if 0 ≤ t175 then (if t175 < (l0_2.length : Int) then (some (rd l0_2 t175)) else (none)) else (none))
def impl_Painting_of.T1 : Bool × List (List Nat × List Nat) := (true, [([], []), ([0], [0]), ([], []), ([2], [2]), ([], []), ([], []), ([3, 4, 5], [3, 4, 5]), ([1, 6], [1, 6]), ([7], [7]), ([8, 6, 0, 1, 2, 3, 4, 5, 6, 7, 8], [8])])
def impl_Painting_of.B1 : List Nat := [0, 1, 0, 4, 0, 0, 60, 127, 255, 511]
theorem impl_Painting_of.tab1 : rtab .any (opsOf Tryd.f41 1) = impl_Painting_of.T1 := by kernel_rfl
theorem impl_Painting_of.bits1 : waitsOk impl_Painting_of.T1.2 impl_Painting_of.B1 = true := by kernel_rfl
set_option maxHeartbeats 8000000 in
set_option maxRecDepth 100000 in
theorem impl_Painting_of.calls (a0_0 : Int) (a0_1 : Int) (A0_2 : Option Addr) (c0_2 : Nat) (l0_2 : List Int) (a1 : Int) (a2 : Int) (r : Int) (w : World) (hr0_2 : Kd.C (Kd.int .i64) w A0_2 l0_2.length l0_2) (hc0_2 : l0_2.length ≤ c0_2) (h : impl_Painting_of.f a0_0 a0_1 l0_2 a1 a2 = some r) :
  Calls Tryd.prog 41 #[.agg #[.int .i64 a0_0, .int .i64 a0_1, .slice A0_2 l0_2.length c0_2], .int .i64 a1, .int .i64 a2] w fun e w' => e = .returned (.int .i64 r) ∧ Below w.heap.size w w' := by
 have hu28 := Tryd.underlying28
 have HR0_2 := Aside0.mk hr0_2
 have HC0_2 := Aside0.mk hc0_2
 clear hr0_2 hc0_2
 have HB := Aside0.mk (Below.refl w.heap.size w)
 have H : ((impl_place.f a0_0 a1 a2).bind fun t175 => (if 0 ≤ t175 then (if t175 < (l0_2.length : Int) then (some (rd l0_2 t175)) else (none)) else (none))) = some r := h
 clear h
 replace H := Option.bind_eq_some_iff.mp H
 obtain ⟨t175, A40, H⟩ := H
 replace H : (if 0 ≤ t175 then (if t175 < (l0_2.length : Int) then (some (rd l0_2 t175)) else (none)) else (none)) = some r := H
 have A4 := Aside0.mk A40
 clear A40
 by_cases c5 : 0 ≤ t175
 ·rw [if_pos c5] at H
  have c5b0 : decide (0 ≤ t175) = true := decide_eq_true c5
  clear c5
  by_cases c6 : t175 < (l0_2.length : Int)
  ·rw [if_pos c6] at H
   have c6b0 : decide (t175 < (l0_2.length : Int)) = true := decide_eq_true c6
   clear c6
   obtain rfl := Option.some.inj H
   go_enter Tryd.func41, Tryd.ntmps41
   try go_wp2_with (first | ((with_reducible refine gate_dst (N := 3) rfl ?_); refine box_event ?hg (N := 3) ?hd (cs := #[.int .i64 a0_0, .int .i64 a0_1, .slice A0_2 l0_2.length c0_2]) (t := 28) ?hr ?_; (case hd => rfl); (case hg => rfl); (case hr => first | (go_simp; done) | (go_simp; rfl)); intro gb174 hg w7 hbox hb; have n0_ := Aside0.mk (below_step (by repeat (first | (with_reducible first | exact HB.out | apply below_alloc | apply pw_below_drewN | apply below_drew1) | exact HB.out)) hb); have n1_ := Aside0.mk (hbox); have n2_ := Aside0.mk ((by rw [hg]; exact (below_size (by repeat (first | (with_reducible first | exact HB.out | apply below_alloc | apply pw_below_drewN | apply below_drew1) | exact HB.out))) : w.heap.size ≤ gb174)); have n3_ := n2_; clear HB; have HB := n0_; have BK174 := n1_; have GW174 := n2_; have GE174 := n3_; clear n0_ n1_ n2_ n3_; clear hb hbox hg))
   have n0_ := Aside0.mk (blk_drew BK174.out)
   have n1_ := Aside0.mk (below_drew1 HB.out)
   clear BK174
   clear HB
   have BK174 := n0_
   have HB := n1_
   clear n0_ n1_
   have p176 : 0 ≤ (t175 : Int) := of_decide_eq_true (by first | (with_reducible assumption) | assumption)
   have q176 : t175 < (l0_2.length : Int) := of_decide_eq_true (by first | (with_reducible assumption) | assumption)
   obtain ⟨ad176, e176, hx176_0⟩ := Kd.at_int HR0_2.out t175 p176 q176
   have hw176_0 := hx176_0
   cases e176
   (try (replace hx176_0 := (HB.out.cell (World.block_lt_of_cell? w _ hx176_0)).trans hx176_0))
   replace p176 := eq_true p176
   replace q176 := eq_true q176
   refine start_ (n := 10) (S := fun w' => w'.cell? ⟨gb174, 0, none⟩ = some (.int .i64 a0_0) ∧ w'.cell? ⟨gb174, 1, none⟩ = some (.int .i64 a0_1) ∧ w'.cell? ⟨gb174, 2, none⟩ = some (.slice (some ad176) l0_2.length c0_2) ∧ w'.cell? (ad176.add (t175).toNat) = some (.int .i64 (rd l0_2 t175))) (ds := []) #[false, false, false, false, false, false, false, false, false, false] (by kernel_rfl) rfl rfl ⟨(blk_cell BK174.out 0).trans rfl, (blk_cell BK174.out 1).trans rfl, (blk_cell BK174.out 2).trans rfl, ((HB.out.cell (World.block_lt_of_cell? w _ hw176_0)).trans hw176_0)⟩ (fun hHeld => ?_); refine with_tabW impl_Painting_of.tab1 impl_Painting_of.bits1 (fun HT_ HW_ => ?_)
   generalize w7.drew = w8 at BK174 HB hx176_0 hHeld ⊢
   refine pure_ (i := 0) (N := some 7) (v := ?_) (a' := ?_) #[true, false, false, false, false, false, false, false, false, false] rfl rfl (any_of HT_.out (by kernel_rfl)) (fun _ _ _ h => h) (Or.inl ⟨by rfl, ?_⟩) ?_ ?_
   rotate_left
   ·intro w'
    go_simp
    with_reducible rfl
   rotate_left
   ·simp only [Act.put, List.setIfInBounds_toArray, List.set_cons_zero, List.set_cons_succ, i64_w, i32_w]
    rfl
   refine pure_ (i := 2) (N := some 9) (v := ?_) (a' := ?_) #[true, false, true, false, false, false, false, false, false, false] rfl rfl (any_of HT_.out (by kernel_rfl)) (fun _ _ _ h => h) (Or.inl ⟨by rfl, ?_⟩) ?_ ?_
   rotate_left
   ·intro w'
    go_simp
    with_reducible rfl
   rotate_left
   ·simp only [Act.put, List.setIfInBounds_toArray, List.set_cons_zero, List.set_cons_succ, i64_w, i32_w]
    rfl
   refine pure_ (i := 4) (N := some 11) (v := ?_) (a' := ?_) #[true, false, true, false, true, false, false, false, false, false] rfl rfl (any_of HT_.out (by kernel_rfl)) (fun _ _ _ h => h) (Or.inl ⟨by rfl, ?_⟩) ?_ ?_
   rotate_left
   ·intro w'
    go_simp
    with_reducible rfl
   rotate_left
   ·simp only [Act.put, List.setIfInBounds_toArray, List.set_cons_zero, List.set_cons_succ, i64_w, i32_w]
    rfl
   refine pure_ (i := 5) (N := some 12) (v := ?_) (a' := ?_) #[true, false, true, false, true, true, false, false, false, false] rfl rfl (any_of HT_.out (by kernel_rfl)) (fun _ _ _ h => h) (Or.inl ⟨by rfl, ?_⟩) ?_ ?_
   rotate_left
   ·intro w'
    go_simp
    with_reducible rfl
   rotate_left
   ·simp only [Act.put, List.setIfInBounds_toArray, List.set_cons_zero, List.set_cons_succ, i64_w, i32_w]
    rfl
   refine take_ (i := 1) (N := some 8) (v := ?_) (a' := ?_) #[true, true, true, false, true, true, false, false, false, false] rfl rfl (take_ofW HT_.out HW_.out (by kernel_rfl)) (fun _ _ _ h => h) (Or.inl ⟨by rfl, ?_⟩) hHeld ?_ ?_
   rotate_left
   ·rintro w' ⟨s0, s1, s2, s3⟩
    go_simp
    with_reducible rfl
   rotate_left
   ·simp only [Act.put, List.setIfInBounds_toArray, List.set_cons_zero, List.set_cons_succ, i64_w, i32_w]
    rfl
   refine take_ (i := 3) (N := some 10) (v := ?_) (a' := ?_) #[true, true, true, true, true, true, false, false, false, false] rfl rfl (take_ofW HT_.out HW_.out (by kernel_rfl)) (fun _ _ _ h => h) (Or.inl ⟨by rfl, ?_⟩) hHeld ?_ ?_
   rotate_left
   ·rintro w' ⟨s0, s1, s2, s3⟩
    go_simp
    with_reducible rfl
   rotate_left
   ·simp only [Act.put, List.setIfInBounds_toArray, List.set_cons_zero, List.set_cons_succ, i64_w, i32_w]
    rfl
   refine one_ (i := 6) (N := some 13) #[true, true, true, true, true, true, true, false, false, false] rfl rfl (one_of HT_.out (by kernel_rfl)) (by decide) (fun K hK => ?_)
   refine goes_ Tryd.func48 (by kernel_rfl) rfl #[.int .i64 a0_0, .int .i64 a1, .int .i64 a2] (by rfl) rfl rfl (by (try simp only [List.map_toArray, List.map_cons, List.map_nil]); first | done | rfl | (simp only [List.length_drop, List.length_take]; rfl)) ?_
   with_reducible refine (impl_place.calls a0_0 a1 a2 t175 _ A4.out).mono ?_
   rintro e w9 ⟨rfl, hb⟩
   refine ⟨_, rfl, ?_⟩
   have n0_ := Aside0.mk (blk_below (g := gb174) (o := .cells #[.int .i64 a0_0, .int .i64 a0_1, .slice (some ad176) l0_2.length c0_2] 28 (0, 0)) (by (with_reducible repeat (first | refine blk_drewN ?_ _ | refine blk_drew ?_ | refine blk_alloc ?_ _)); exact BK174.out) hb)
   have n1_ := Aside0.mk (below_step (by repeat (first | (with_reducible first | exact HB.out | apply below_alloc | apply pw_below_drewN | apply below_drew1 | refine below_set ?_ GE174.out) | exact HB.out)) hb)
   clear BK174
   clear HB
   have BK174 := n0_
   have HB := n1_
   clear n0_ n1_
   (try clear hb)
   (try clear hb2)
   (try clear hk)
   (try clear hi)
   refine hK.out _ _ ⟨(blk_cell BK174.out 0).trans rfl, (blk_cell BK174.out 1).trans rfl, (blk_cell BK174.out 2).trans rfl, ((HB.out.cell (World.block_lt_of_cell? w _ hw176_0)).trans hw176_0)⟩ (fun hHeld => ?_)
   clear hK K
   refine norm_ (a' := ?_) ?_ ?_
   rotate_left
   ·show Act.put _ (some 13) _ = _
    simp only [Act.put, List.setIfInBounds_toArray, List.set_cons_zero, List.set_cons_succ, i64_w, i32_w]
    rfl
   refine pure_ (i := 7) (N := some 14) (v := ?_) (a' := ?_) #[true, true, true, true, true, true, true, true, false, false] rfl rfl (any_of HT_.out (by kernel_rfl)) (fun _ _ _ h => h) (Or.inl ⟨by rfl, ?_⟩) ?_ ?_
   rotate_left
   ·intro w'
    go_simp
    with_reducible rfl
   rotate_left
   ·simp only [Act.put, List.setIfInBounds_toArray, List.set_cons_zero, List.set_cons_succ, i64_w, i32_w]
    rfl
   refine take_ (i := 8) (N := some 15) (v := ?_) (a' := ?_) #[true, true, true, true, true, true, true, true, true, false] rfl rfl (take_ofW HT_.out HW_.out (by kernel_rfl)) (fun _ _ _ h => h) (Or.inl ⟨by rfl, ?_⟩) hHeld ?_ ?_
   rotate_left
   ·rintro w' ⟨s0, s1, s2, s3⟩
    go_simp
    with_reducible rfl
   rotate_left
   ·simp only [Act.put, List.setIfInBounds_toArray, List.set_cons_zero, List.set_cons_succ, i64_w, i32_w]
    rfl
   refine pure_ (i := 9) (N := some 6) (v := ?_) (a' := ?_) #[true, true, true, true, true, true, true, true, true, true] rfl rfl (any_of HT_.out (by kernel_rfl)) (fun _ _ _ h => h) (Or.inl ⟨by rfl, ?_⟩) ?_ ?_
   rotate_left
   ·intro w'
    go_simp
    with_reducible rfl
   rotate_left
   ·simp only [Act.put, List.setIfInBounds_toArray, List.set_cons_zero, List.set_cons_succ, i64_w, i32_w]
    rfl
   refine done_ (done_of HT_.out (by kernel_rfl)) ?_
   try go_wp2
   go_ret
   exact ⟨by first | rfl | (simp [errW_none, errW_some] <;> rfl) | (simp [*, errW_none, errW_some] <;> rfl), by repeat (first | (with_reducible first | exact HB.out | apply below_alloc | apply pw_below_drewN | apply below_drew1 | refine below_set ?_ GE174.out) | exact HB.out)⟩
  ·rw [if_neg c6] at H
   exact absurd H (by simp)
 ·rw [if_neg c5] at H
  exact absurd H (by simp)

end Go.Proofs.YteffcgocnkcpiaaDoor.Q
namespace Go.Proofs.YteffcgocnkcpiaaDoor.Q
open Go.RowKit Go.Proofs.YteffcgocnkcpiaaDoorW.PrintWords Go.Proofs.YteffcgocnkcpiaaDoorW.PrintLast Go.Proofs.YteffcgocnkcpiaaDoorW.PrintMore
attribute [local go_sem] max2_int min2_int max_two min_two max_three min_three max_four min_four   -- for this text's walks alone
set_option linter.unusedVariables false
set_option linter.unusedSimpArgs false

/-! ### impl_Painting_inColour: function 34 -/
mutual
def impl_Painting_inColour.l0 : Nat → Int → List Int → Int → Int → Int → Int → List Int → Option (List Int)
 | 0, _, _, _, _, _, _, _ => none
 | k + 1, x1, x5, x12, x13, x182000, x182001, x182002 => if x13 < x12 then (impl_Painting_inColour.l1 k x1 x5 x13 x12 x13 x13 0 x182000 x182001 x182002) else (some x5)
def impl_Painting_inColour.l1 : Nat → Int → List Int → Int → Int → Int → Int → Int → Int → Int → List Int → Option (List Int)
 | 0, _, _, _, _, _, _, _, _, _, _ => none
 | k + 1, x1, x5, x6, x12, x13, x16, x17, x182000, x182001, x182002 => if x17 < x16 then ((impl_Painting_of.f x182000 x182001 x182002 x6 x17).bind fun t185 => (if t185 = x1 then ((impl_table_put.f x5 x6 x17).bind fun t186 => (impl_Painting_inColour.l1 k x1 t186 x6 x12 x13 x16 (wrap64 (x17 + 1)) x182000 x182001 x182002)) else (impl_Painting_inColour.l1 k x1 x5 x6 x12 x13 x16 (wrap64 (x17 + 1)) x182000 x182001 x182002))) else (impl_Painting_inColour.l0 k x1 x5 x12 (wrap64 (x13 + 1)) x182000 x182001 x182002)
end
def impl_Painting_inColour.f (k : Nat) (a0_0 : Int) (a0_1 : Int) (l0_2 : List Int) (a1 : Int) : Option (List Int) := if 0 ≤ a0_0 then (if (a0_0 : Int).toNat ≤ 140737488355328 then ((some (List.replicate (a0_0 : Int).toNat 0 : List Int)).bind fun y182 => (impl_Painting_inColour.l0 k a1 y182 (y182.length : Int) 0 a0_0 a0_1 l0_2)) else (none)) else (none)
theorem impl_Painting_inColour.mono_l : ∀ k, (∀ y0 y1 y2 y3 y4 y5 y6, LeO (impl_Painting_inColour.l0 k y0 y1 y2 y3 y4 y5 y6) (impl_Painting_inColour.l0 (k + 1) y0 y1 y2 y3 y4 y5 y6)) ∧ (∀ y0 y1 y2 y3 y4 y5 y6 y7 y8 y9, LeO (impl_Painting_inColour.l1 k y0 y1 y2 y3 y4 y5 y6 y7 y8 y9) (impl_Painting_inColour.l1 (k + 1) y0 y1 y2 y3 y4 y5 y6 y7 y8 y9))
 | 0 => ⟨fun _ _ _ _ _ _ _ r h => by simp [impl_Painting_inColour.l0] at h, fun _ _ _ _ _ _ _ _ _ _ r h => by simp [impl_Painting_inColour.l1] at h⟩
 | k + 1 => by
  obtain ⟨ih0, ih1⟩ := impl_Painting_inColour.mono_l k
  refine ⟨?_, ?_⟩
  ·intro y0 y1 y2 y3 y4 y5 y6
   unfold impl_Painting_inColour.l0
   repeat' first
   | (with_reducible exact ih0 _ _ _ _ _ _ _)
   | (with_reducible exact ih1 _ _ _ _ _ _ _ _ _ _)
   | (with_reducible exact LeO.refl _)
   | (with_reducible exact LeO.none _)
   | (with_reducible refine LeO.ite ?_ ?_)
   | (with_reducible refine LeO.bind ?_ (fun _ => ?_))
   | exact ih0 _ _ _ _ _ _ _
   | exact ih1 _ _ _ _ _ _ _ _ _ _
   | exact LeO.none _
   | refine LeO.ite ?_ ?_
   | refine LeO.bind ?_ (fun _ => ?_)
  ·intro y0 y1 y2 y3 y4 y5 y6 y7 y8 y9
   unfold impl_Painting_inColour.l1
   repeat' first
   | (with_reducible exact ih0 _ _ _ _ _ _ _)
   | (with_reducible exact ih1 _ _ _ _ _ _ _ _ _ _)
   | (with_reducible exact LeO.refl _)
   | (with_reducible exact LeO.none _)
   | (with_reducible refine LeO.ite ?_ ?_)
   | (with_reducible refine LeO.bind ?_ (fun _ => ?_))
   | exact ih0 _ _ _ _ _ _ _
   | exact ih1 _ _ _ _ _ _ _ _ _ _
   | exact LeO.none _
   | refine LeO.ite ?_ ?_
   | refine LeO.bind ?_ (fun _ => ?_)
theorem impl_Painting_inColour.mono : ∀ a0 a1 a2 a3 k, LeO (impl_Painting_inColour.f k a0 a1 a2 a3) (impl_Painting_inColour.f (k + 1) a0 a1 a2 a3) := by
 intro a0 a1 a2 a3 k
 obtain ⟨ih0, ih1⟩ := impl_Painting_inColour.mono_l k
 unfold impl_Painting_inColour.f
 repeat' first
   | (with_reducible exact ih0 _ _ _ _ _ _ _)
   | (with_reducible exact ih1 _ _ _ _ _ _ _ _ _ _)
   | (with_reducible exact LeO.refl _)
   | (with_reducible exact LeO.none _)
   | (with_reducible refine LeO.ite ?_ ?_)
   | (with_reducible refine LeO.bind ?_ (fun _ => ?_))
   | exact ih0 _ _ _ _ _ _ _
   | exact ih1 _ _ _ _ _ _ _ _ _ _
   | exact LeO.none _
   | refine LeO.ite ?_ ?_
   | refine LeO.bind ?_ (fun _ => ?_)
set_option maxHeartbeats 8000000 in
set_option maxRecDepth 100000 in
theorem impl_Painting_inColour.calls (k : Nat) (a0_0 : Int) (a0_1 : Int) (A0_2 : Option Addr) (c0_2 : Nat) (l0_2 : List Int) (a1 : Int) (r : List Int) (w : World) (hr0_2 : Kd.C (Kd.int .i64) w A0_2 l0_2.length l0_2) (hc0_2 : l0_2.length ≤ c0_2) (h : impl_Painting_inColour.f k a0_0 a0_1 l0_2 a1 = some r) :
  Calls Tryd.prog 34 #[.agg #[.int .i64 a0_0, .int .i64 a0_1, .slice A0_2 l0_2.length c0_2], .int .i64 a1] w fun e w' => ∃ v0_ : Value, e = .returned (v0_) ∧ Kd.R (Kd.int .u16) 57 w' w.heap.size (fun _ => True) v0_ r ∧ Below w.heap.size w w' := by
 have hu28 := Tryd.underlying28
 have HR0_2 := Aside0.mk hr0_2
 have HC0_2 := Aside0.mk hc0_2
 clear hr0_2 hc0_2
 have HB := Aside0.mk (Below.refl w.heap.size w)
 have H : (if 0 ≤ a0_0 then (if (a0_0 : Int).toNat ≤ 140737488355328 then ((some (List.replicate (a0_0 : Int).toNat 0 : List Int)).bind fun y182 => (impl_Painting_inColour.l0 k a1 y182 (y182.length : Int) 0 a0_0 a0_1 l0_2)) else (none)) else (none)) = some r := h
 clear h
 by_cases c3 : 0 ≤ a0_0
 ·rw [if_pos c3] at H
  have c3b0 := eq_true c3
  have c3b1 : decide (0 ≤ a0_0) = true := decide_eq_true c3
  clear c3
  by_cases c4 : (a0_0 : Int).toNat ≤ 140737488355328
  ·rw [if_pos c4] at H
   have c4b0 := eq_true c4
   have c4b1 : decide ((a0_0 : Int).toNat ≤ 140737488355328) = true := decide_eq_true c4
   clear c4
   obtain ⟨y182, hy182⟩ : ∃ y_ : List Int, y_ = (List.replicate (a0_0 : Int).toNat 0) := ⟨_, rfl⟩
   replace H : (impl_Painting_inColour.l0 k a1 y182 (y182.length : Int) 0 a0_0 a0_1 l0_2) = some r := by first | (rw [hy182]; with_reducible exact H) | (have H2_ := (Option.bind_some _ _).symm.trans H; rw [hy182]; with_reducible exact H2_) | (have H2_ := (Option.bind_some _ _).symm.trans H; with_reducible exact H2_) | with_reducible exact H | (rw [hy182]; exact H) | exact H
   have Ny182 := Aside0.mk hy182
   clear hy182
   have H' := Aside0.mk H
   clear H
   go_enter Tryd.func34, Tryd.ntmps34
   go_wp2_with (first | ((with_reducible refine gate_dst (N := 2) rfl ?_); refine box_event ?hg (N := 2) ?hd (cs := #[.int .i64 a0_0, .int .i64 a0_1, .slice A0_2 l0_2.length c0_2]) (t := 28) ?hr ?_; (case hd => rfl); (case hg => rfl); (case hr => first | (go_simp; done) | (go_simp; rfl)); intro gb181 hg w5 hbox hb; have n0_ := Aside0.mk (below_step (by repeat (first | (with_reducible first | exact HB.out | apply below_alloc | apply pw_below_drewN | apply below_drew1) | exact HB.out)) hb); have n1_ := Aside0.mk (hbox); have n2_ := Aside0.mk ((by rw [hg]; exact (below_size (by repeat (first | (with_reducible first | exact HB.out | apply below_alloc | apply pw_below_drewN | apply below_drew1) | exact HB.out))) : w.heap.size ≤ gb181)); have n3_ := n2_; clear HB; have HB := n0_; have BK181 := n1_; have GW181 := n2_; have GE181 := n3_; clear n0_ n1_ n2_ n3_; clear hb hbox hg; have hcz6_0 : w5.cell? ⟨gb181, 0, none⟩ = some (.int .i64 a0_0) := (blk_cell BK181.out 0).trans rfl; have hcz6_1 : w5.cell? ⟨gb181, 1, none⟩ = some (.int .i64 a0_1) := (blk_cell BK181.out 1).trans rfl; have hcz6_2 : w5.cell? ⟨gb181, 2, none⟩ = some (.slice A0_2 l0_2.length c0_2) := (blk_cell BK181.out 2).trans rfl; have hfz6_0 := blk_frozen BK181.out 0; have hfz6_1 := blk_frozen BK181.out 1; have hfz6_2 := blk_frozen BK181.out 2) | ((with_reducible refine gate_dst (N := 10) rfl ?_); refine Kd.R_make (Kd.int .u16) _ 57 rfl (N := 10) rfl 50 _ _ rfl a0_0 rfl rfl Tryd.underlying50 (.int .u16 0) 2 info57 rfl (by decide) (by omega) 0 (ok := fun _ => True) (okp := fun _ => True) rfl (fun _ hk => hk) trivial (of_decide_eq_true (by first | (with_reducible assumption) | assumption)) (Nat.le_trans (Nat.mul_le_mul_right _ (of_decide_eq_true (by first | (with_reducible assumption) | assumption) : a0_0.toNat ≤ 140737488355328)) (by omega)) (Below.refl _ _) (Nat.le_refl _) ?_; intro v183 w7 ho8 hb hg_ hnew_; clear hg_ hnew_; (first | rw [← Ny182.out] at ho8 | (simp only [Int.reduceToNat] at ho8; rw [← Ny182.out] at ho8)); have n0_ := Aside0.mk (Kd.R_lower ho8 (below_size (by repeat (first | (with_reducible first | exact HB.out | apply below_alloc | apply pw_below_drewN | apply below_drew1 | refine below_set ?_ GE181.out) | exact HB.out)))); have n1_ := Aside0.mk (blk_below (g := gb181) (o := .cells #[.int .i64 a0_0, .int .i64 a0_1, .slice A0_2 l0_2.length c0_2] 28 (0, 0)) (by (with_reducible repeat (first | refine blk_drewN ?_ _ | refine blk_drew ?_ | refine blk_alloc ?_ _)); exact BK181.out) hb); have n2_ := Aside0.mk (below_step (by repeat (first | (with_reducible first | exact HB.out | apply below_alloc | apply pw_below_drewN | apply below_drew1 | refine below_set ?_ GE181.out) | exact HB.out)) hb); clear BK181; clear HB; have HO184 := n0_; have BK181 := n1_; have HB := n2_; clear n0_ n1_ n2_; clear hb ho8; obtain ⟨Ao9, co9, eo9⟩ := Kd.R_slice HO184.out; subst eo9))
   go_loopg [13] k (fun kq v13 w' => ∃ (x5_1 : List Int) (x13_1 : Int), v13 = .int .i64 x13_1 ∧ Aside0 (impl_Painting_inColour.l0 kq a1 x5_1 (y182.length : Int) x13_1 a0_0 a0_1 l0_2 = some r) ∧ Aside0 (kq ≤ k) ∧ Aside0 (Kd.R (Kd.int .u16) 57 w' w.heap.size (fun _ => True) (.slice Ao9 y182.length co9) x5_1) ∧ Aside0 (w'.heap[gb181]? = some (.cells #[.int .i64 a0_0, .int .i64 a0_1, (.slice A0_2 l0_2.length c0_2)] 28 (0, 0))) ∧ Aside0 (Below w.heap.size w w'))
   case atStart => exact ⟨(y182), (0), (by first | rfl | (simp; done) | (simp [*]; done)), H', ⟨Nat.le_refl _⟩, ⟨by (with_reducible repeat (first | apply Kd.R_alloc | apply Kd.R_drewN | apply Kd.R_drew)); exact HO184.out⟩, ⟨by (with_reducible repeat (first | refine blk_drewN ?_ _ | refine blk_drew ?_ | refine blk_alloc ?_ _)); exact BK181.out⟩, ⟨by repeat (first | (with_reducible first | exact HB.out | apply below_alloc | apply pw_below_drewN | apply below_drew1 | refine below_set ?_ GE181.out) | exact HB.out)⟩⟩
   case round =>
    clear H'
    try clear p2
    try clear c3
    try clear c3b0
    try clear c3b1
    try clear c4
    try clear c4b0
    try clear c4b1
    try clear hcz6_0
    try clear hcz6_1
    try clear hcz6_2
    try clear hfz6_0
    try clear hfz6_1
    try clear hfz6_2
    obtain ⟨x5_1, x13_1, rfl, HA, HK1, HO_5, BK181, HB⟩ := hrel
    have hl5_1 := (Kd.R_reads' HO_5.out).1
    rw [hl5_1] at HO_5
    (try simp only [hl5_1])
    (try simp only [hl5_1] at BK181)
    cases gk with
    | zero => exact absurd HA.out (by simp [impl_Painting_inColour.l0])
    | succ k1 =>
     have H := HA.out
     clear HA
     simp only [impl_Painting_inColour.l0] at H
     by_cases c10 : x13_1 < (y182.length : Int)
     ·rw [if_pos c10] at H
      have c10b0 : decide (x13_1 < (y182.length : Int)) = true := decide_eq_true c10
      (try (have c10b0_0 := c10b0; simp only [hl5_1] at c10b0_0))
      clear c10
      have H' := Aside0.mk H
      clear H
      go_wp2
      go_loopg [17] k1 (fun kq v17 w' => ∃ (x5_2 : List Int) (x17_2 : Int), v17 = .int .i64 x17_2 ∧ Aside0 (impl_Painting_inColour.l1 kq a1 x5_2 x13_1 (y182.length : Int) x13_1 x13_1 x17_2 a0_0 a0_1 l0_2 = some r) ∧ Aside0 (kq ≤ k1) ∧ Aside0 (Kd.R (Kd.int .u16) 57 w' w.heap.size (fun _ => True) (.slice Ao9 x5_1.length co9) x5_2) ∧ Aside0 (w'.heap[gb181]? = some (.cells #[.int .i64 a0_0, .int .i64 a0_1, (.slice A0_2 l0_2.length c0_2)] 28 (0, 0))) ∧ Aside0 (Below w.heap.size w w'))
      case atStart => exact ⟨(x5_1), (0), (by first | rfl | (simp; done) | (simp [*]; done)), H', ⟨Nat.le_refl _⟩, ⟨by (try simp only [hl5_1]); (with_reducible repeat (first | apply Kd.R_alloc | apply Kd.R_drewN | apply Kd.R_drew)); exact HO_5.out⟩, ⟨by (try simp only [hl5_1]); (with_reducible repeat (first | refine blk_drewN ?_ _ | refine blk_drew ?_ | refine blk_alloc ?_ _)); exact BK181.out⟩, ⟨by repeat (first | (with_reducible first | exact HB.out | apply below_alloc | apply pw_below_drewN | apply below_drew1 | refine below_set ?_ GE181.out) | exact HB.out)⟩⟩
      case round =>
       clear H'
       try clear c1
       try clear p2
       try clear c3
       try clear c3b0
       try clear c3b1
       try clear c4
       try clear c4b0
       try clear c4b1
       try clear c10
       try clear c10b0
       try clear hcz6_0
       try clear hcz6_1
       try clear hcz6_2
       try clear hfz6_0
       try clear hfz6_1
       try clear hfz6_2
       try clear p2
       obtain ⟨x5_2, x17_2, rfl, HA, HK2, HO_5, BK181, HB⟩ := hrel
       have hl5_2 := (Kd.R_reads' HO_5.out).1
       rw [hl5_2] at HO_5
       (try simp only [hl5_2])
       (try simp only [hl5_2] at BK181)
       cases gk with
       | zero => exact absurd HA.out (by simp [impl_Painting_inColour.l1])
       | succ k2 =>
        have H := HA.out
        clear HA
        simp only [impl_Painting_inColour.l1] at H
        by_cases c11 : x17_2 < x13_1
        ·rw [if_pos c11] at H
         have c11b0 : decide (x17_2 < x13_1) = true := decide_eq_true c11
         clear c11
         replace H := Option.bind_eq_some_iff.mp H
         obtain ⟨t185, A120, H⟩ := H
         replace H : (if t185 = a1 then ((impl_table_put.f x5_2 x13_1 x17_2).bind fun t186 => (impl_Painting_inColour.l1 k2 a1 t186 x13_1 (y182.length : Int) x13_1 x13_1 (wrap64 (x17_2 + 1)) a0_0 a0_1 l0_2)) else (impl_Painting_inColour.l1 k2 a1 x5_2 x13_1 (y182.length : Int) x13_1 x13_1 (wrap64 (x17_2 + 1)) a0_0 a0_1 l0_2)) = some r := H
         have A12 := Aside0.mk A120
         clear A120
         by_cases c13 : t185 = a1
         ·rw [if_pos c13] at H
          have c13b0 : (t185 == a1) = true := beq_iff_eq.mpr c13
          have c13b1 : (t185 != a1) = false := bne_eq_false_iff_eq.mpr c13
          clear c13
          replace H := Option.bind_eq_some_iff.mp H
          obtain ⟨t186, A140, H⟩ := H
          replace H : (impl_Painting_inColour.l1 k2 a1 t186 x13_1 (y182.length : Int) x13_1 x13_1 (wrap64 (x17_2 + 1)) a0_0 a0_1 l0_2) = some r := H
          have A14 := Aside0.mk A140
          clear A140
          have H' := Aside0.mk H
          clear H
          have hcz15_0 : wr.cell? ⟨gb181, 0, none⟩ = some (.int .i64 a0_0) := (blk_cell BK181.out 0).trans rfl
          have hcz15_1 : wr.cell? ⟨gb181, 1, none⟩ = some (.int .i64 a0_1) := (blk_cell BK181.out 1).trans rfl
          have hcz15_2 : wr.cell? ⟨gb181, 2, none⟩ = some (.slice A0_2 l0_2.length c0_2) := (blk_cell BK181.out 2).trans rfl
          have hfz15_0 := blk_frozen BK181.out 0
          have hfz15_1 := blk_frozen BK181.out 1
          have hfz15_2 := blk_frozen BK181.out 2
          go_wp2_with (first | ((with_reducible refine gate_callee (f := 41) rfl ?_); refine goesL_ (some 23) rfl rfl Tryd.func41 (by kernel_rfl) rfl #[.agg #[.int .i64 a0_0, .int .i64 a0_1, .slice A0_2 l0_2.length c0_2], .int .i64 x13_1, .int .i64 x17_2] rfl (by (try simp only [List.map_toArray, List.map_cons, List.map_nil]); first | done | rfl | (simp only [List.length_drop, List.length_take]; rfl)) ?_; (with_reducible refine (impl_Painting_of.calls a0_0 a0_1 _ _ l0_2 x13_1 x17_2 t185 _ ?side1 ?side2 A12.out).mono ?_); (case side1 => repeat (first | exact (Kd.C_below HR0_2.out HB.out) | (with_reducible refine Kd.C_alloc ?_ _) | (with_reducible refine Kd.C_drewN ?_ _) | (with_reducible refine Kd.C_drew ?_))); (case side2 => exact HC0_2.out); rintro e w16 ⟨rfl, hb⟩; refine ⟨_, rfl, ?_⟩; have n0_ := Aside0.mk (Kd.R_below (by (with_reducible repeat (first | apply Kd.R_alloc | apply Kd.R_drewN | apply Kd.R_drew)); exact HO_5.out) hb); have n1_ := Aside0.mk (blk_below (g := gb181) (o := .cells #[.int .i64 a0_0, .int .i64 a0_1, .slice A0_2 l0_2.length c0_2] 28 (0, 0)) (by (with_reducible repeat (first | refine blk_drewN ?_ _ | refine blk_drew ?_ | refine blk_alloc ?_ _)); exact BK181.out) hb); have n2_ := Aside0.mk (below_step (by repeat (first | (with_reducible first | exact HB.out | apply below_alloc | apply pw_below_drewN | apply below_drew1 | refine below_set ?_ GE181.out) | exact HB.out)) hb); clear HO_5; clear BK181; clear HB; have HO_5 := n0_; have BK181 := n1_; have HB := n2_; clear n0_ n1_ n2_; (try clear hb); (try clear hb2); (try clear hk); (try clear hi)) | ((with_reducible refine gate_callee (f := 42) rfl ?_); refine goesL_ (some 29) rfl rfl Tryd.func42 (by kernel_rfl) rfl #[.slice Ao9 x5_2.length co9, .int .i64 x13_1, .int .i64 x17_2] rfl (by (try simp only [List.map_toArray, List.map_cons, List.map_nil]); first | done | rfl | (simp only [List.length_drop, List.length_take]; rfl)) ?_; (with_reducible refine (impl_table_put.calls (fun k_ => some k_ = (.slice Ao9 x5_2.length co9 : Value).ownBlock) (.slice Ao9 x5_2.length co9) x5_2 x13_1 x17_2 t186 w _ ?side1 ?side2 A14.out).mono ?_); (case side1 => repeat (first | (with_reducible first | exact HB.out | apply below_alloc | apply pw_below_drewN | apply below_drew1 | refine below_set ?_ GE181.out) | exact HB.out)); (case side2 => exact Kd.R_tight rfl HO_5.out); rintro e w17 ⟨rfl, hy0, hb, hkp⟩; refine ⟨_, rfl, ?_⟩; have n0_ := Aside0.mk (Kd.R_reok rfl hy0 (fun k_ e_ => HO_5.out.1 k_ e_)); have n1_ := Aside0.mk (blk_kept (by (with_reducible repeat (first | refine blk_drewN ?_ _ | refine blk_drew ?_ | refine blk_alloc ?_ _)); exact BK181.out) hkp (fun hs_ => (fun e_ => (Kd.R_ne HO_5.out BK181.out (by decide)) e_) hs_)); have n2_ := Aside0.mk (hb); clear HO_5; clear BK181; clear HB; have HO_5 := n0_; have BK181 := n1_; have HB := n2_; clear n0_ n1_ n2_; (try clear hb); (try clear hkp); (try clear hy0)))
          (try simp only [← hl5_2])
          go_roundg k2
          case measure => have := HK1.out; have := HK2.out; omega
          case rel => exact ⟨(t186), (wrap64 (x17_2 + 1)), (by first | rfl | (simp; done) | (simp [*]; done)), H', ⟨by have := HK1.out; have := HK2.out; omega⟩, ⟨by (try simp only [hl5_1]); (try simp only [hl5_2]); (with_reducible repeat (first | apply Kd.R_alloc | apply Kd.R_drewN | apply Kd.R_drew)); exact HO_5.out⟩, ⟨by (try simp only [hl5_1]); (try simp only [hl5_2]); (with_reducible repeat (first | refine blk_drewN ?_ _ | refine blk_drew ?_ | refine blk_alloc ?_ _)); exact BK181.out⟩, ⟨by repeat (first | (with_reducible first | exact HB.out | apply below_alloc | apply pw_below_drewN | apply below_drew1 | refine below_set ?_ GE181.out) | exact HB.out)⟩⟩
         ·rw [if_neg c13] at H
          have c13b0 : (t185 == a1) = false := beq_eq_false_iff_ne.mpr c13
          have c13b1 : (t185 != a1) = true := bne_iff_ne.mpr c13
          have H' := Aside0.mk H
          clear H
          have hcz18_0 : wr.cell? ⟨gb181, 0, none⟩ = some (.int .i64 a0_0) := (blk_cell BK181.out 0).trans rfl
          have hcz18_1 : wr.cell? ⟨gb181, 1, none⟩ = some (.int .i64 a0_1) := (blk_cell BK181.out 1).trans rfl
          have hcz18_2 : wr.cell? ⟨gb181, 2, none⟩ = some (.slice A0_2 l0_2.length c0_2) := (blk_cell BK181.out 2).trans rfl
          have hfz18_0 := blk_frozen BK181.out 0
          have hfz18_1 := blk_frozen BK181.out 1
          have hfz18_2 := blk_frozen BK181.out 2
          go_wp2_with (first | ((with_reducible refine gate_callee (f := 41) rfl ?_); refine goesL_ (some 23) rfl rfl Tryd.func41 (by kernel_rfl) rfl #[.agg #[.int .i64 a0_0, .int .i64 a0_1, .slice A0_2 l0_2.length c0_2], .int .i64 x13_1, .int .i64 x17_2] rfl (by (try simp only [List.map_toArray, List.map_cons, List.map_nil]); first | done | rfl | (simp only [List.length_drop, List.length_take]; rfl)) ?_; (with_reducible refine (impl_Painting_of.calls a0_0 a0_1 _ _ l0_2 x13_1 x17_2 t185 _ ?side1 ?side2 A12.out).mono ?_); (case side1 => repeat (first | exact (Kd.C_below HR0_2.out HB.out) | (with_reducible refine Kd.C_alloc ?_ _) | (with_reducible refine Kd.C_drewN ?_ _) | (with_reducible refine Kd.C_drew ?_))); (case side2 => exact HC0_2.out); rintro e w19 ⟨rfl, hb⟩; refine ⟨_, rfl, ?_⟩; have n0_ := Aside0.mk (Kd.R_below (by (with_reducible repeat (first | apply Kd.R_alloc | apply Kd.R_drewN | apply Kd.R_drew)); exact HO_5.out) hb); have n1_ := Aside0.mk (blk_below (g := gb181) (o := .cells #[.int .i64 a0_0, .int .i64 a0_1, .slice A0_2 l0_2.length c0_2] 28 (0, 0)) (by (with_reducible repeat (first | refine blk_drewN ?_ _ | refine blk_drew ?_ | refine blk_alloc ?_ _)); exact BK181.out) hb); have n2_ := Aside0.mk (below_step (by repeat (first | (with_reducible first | exact HB.out | apply below_alloc | apply pw_below_drewN | apply below_drew1 | refine below_set ?_ GE181.out) | exact HB.out)) hb); clear HO_5; clear BK181; clear HB; have HO_5 := n0_; have BK181 := n1_; have HB := n2_; clear n0_ n1_ n2_; (try clear hb); (try clear hb2); (try clear hk); (try clear hi)))
          (try simp only [← hl5_2])
          go_roundg k2
          case measure => have := HK1.out; have := HK2.out; omega
          case rel => exact ⟨(x5_2), (wrap64 (x17_2 + 1)), (by first | rfl | (simp; done) | (simp [*]; done)), H', ⟨by have := HK1.out; have := HK2.out; omega⟩, ⟨by (try simp only [hl5_1]); (try simp only [hl5_2]); (with_reducible repeat (first | apply Kd.R_alloc | apply Kd.R_drewN | apply Kd.R_drew)); exact HO_5.out⟩, ⟨by (try simp only [hl5_1]); (try simp only [hl5_2]); (with_reducible repeat (first | refine blk_drewN ?_ _ | refine blk_drew ?_ | refine blk_alloc ?_ _)); exact BK181.out⟩, ⟨by repeat (first | (with_reducible first | exact HB.out | apply below_alloc | apply pw_below_drewN | apply below_drew1 | refine below_set ?_ GE181.out) | exact HB.out)⟩⟩
        ·rw [if_neg c11] at H
         have c11b0 : decide (x17_2 < x13_1) = false := decide_eq_false c11
         clear c11
         have H' := Aside0.mk H
         clear H
         go_wp2
         (try simp only [← hl5_1, ← hl5_2])
         go_roundg k2
         case measure => have := HK1.out; have := HK2.out; omega
         case rel => exact ⟨(x5_2), (wrap64 (x13_1 + 1)), (by first | rfl | (simp; done) | (simp [*]; done)), H', ⟨by have := HK1.out; have := HK2.out; omega⟩, ⟨by (try simp only [hl5_1]); (try simp only [hl5_2]); (with_reducible repeat (first | apply Kd.R_alloc | apply Kd.R_drewN | apply Kd.R_drew)); exact HO_5.out⟩, ⟨by (try simp only [hl5_1]); (try simp only [hl5_2]); (with_reducible repeat (first | refine blk_drewN ?_ _ | refine blk_drew ?_ | refine blk_alloc ?_ _)); exact BK181.out⟩, ⟨by repeat (first | (with_reducible first | exact HB.out | apply below_alloc | apply pw_below_drewN | apply below_drew1 | refine below_set ?_ GE181.out) | exact HB.out)⟩⟩
     ·rw [if_neg c10] at H
      have c10b0 : decide (x13_1 < (y182.length : Int)) = false := decide_eq_false c10
      (try (have c10b0_0 := c10b0; simp only [hl5_1] at c10b0_0))
      clear c10
      obtain rfl := Option.some.inj H
      go_wp2
      go_ret
      exact ⟨_, by first | rfl | (simp [errW_none, errW_some] <;> rfl) | (simp [*, errW_none, errW_some] <;> rfl), by (with_reducible repeat (first | apply Kd.R_alloc | apply Kd.R_drewN | apply Kd.R_drew)); exact HO_5.out, by repeat (first | (with_reducible first | exact HB.out | apply below_alloc | apply pw_below_drewN | apply below_drew1 | refine below_set ?_ GE181.out) | exact HB.out)⟩
  ·rw [if_neg c4] at H
   exact absurd H (by simp)
 ·rw [if_neg c3] at H
  exact absurd H (by simp)

end Go.Proofs.YteffcgocnkcpiaaDoor.Q
namespace Go.Proofs.YteffcgocnkcpiaaDoor.Q
open Go.RowKit Go.Proofs.YteffcgocnkcpiaaDoorW.PrintWords Go.Proofs.YteffcgocnkcpiaaDoorW.PrintLast Go.Proofs.YteffcgocnkcpiaaDoorW.PrintMore
attribute [local go_sem] max2_int min2_int max_two min_two max_three min_three max_four min_four   -- for this text's walks alone
set_option linter.unusedVariables false
set_option linter.unusedSimpArgs false

/-! ### cmp_isNaN_int: function 46 -/
def cmp_isNaN_int.f (a0 : Int) : Option (Bool) := some (a0 != a0)
set_option maxHeartbeats 8000000 in
set_option maxRecDepth 100000 in
theorem cmp_isNaN_int.calls (a0 : Int) (r : Bool) (w : World) (h : cmp_isNaN_int.f a0 = some r) :
  Calls Tryd.prog 46 #[.int .i64 a0] w fun e w' => e = .returned (.bool r) ∧ Drawn0 w w' := by
 have H : (some (a0 != a0)) = some r := h
 clear h
 obtain rfl := Option.some.inj H
 go_enter Tryd.func46, Tryd.ntmps46
 go_wp2
 go_ret
 exact ⟨by first | rfl | (simp; done) | (simp [*]; done), by repeat (first | exact Drawn0.refl _ | apply Drawn0.step)⟩

end Go.Proofs.YteffcgocnkcpiaaDoor.Q
namespace Go.Proofs.YteffcgocnkcpiaaDoor.Q
open Go.RowKit Go.Proofs.YteffcgocnkcpiaaDoorW.PrintWords Go.Proofs.YteffcgocnkcpiaaDoorW.PrintLast Go.Proofs.YteffcgocnkcpiaaDoorW.PrintMore
attribute [local go_sem] max2_int min2_int max_two min_two max_three min_three max_four min_four   -- for this text's walks alone
set_option linter.unusedVariables false
set_option linter.unusedSimpArgs false

/-! ### cmp_Compare_int: function 37 -/
def cmp_Compare_int.f (a0 : Int) (a1 : Int) : Option (Int) := (cmp_isNaN_int.f a0).bind fun t169 => ((cmp_isNaN_int.f a1).bind fun t170 => (if t169 = true then (if t170 = true then (some 0) else (some (-1))) else (if t170 = true then (some 1) else (if a0 < a1 then (some (-1)) else (if a0 > a1 then (some 1) else (some 0))))))
set_option maxHeartbeats 8000000 in
set_option maxRecDepth 100000 in
theorem cmp_Compare_int.calls (a0 : Int) (a1 : Int) (r : Int) (w : World) (h : cmp_Compare_int.f a0 a1 = some r) :
  Calls Tryd.prog 37 #[.int .i64 a0, .int .i64 a1] w fun e w' => e = .returned (.int .i64 r) ∧ Drawn0 w w' := by
 have H : ((cmp_isNaN_int.f a0).bind fun t169 => ((cmp_isNaN_int.f a1).bind fun t170 => (if t169 = true then (if t170 = true then (some 0) else (some (-1))) else (if t170 = true then (some 1) else (if a0 < a1 then (some (-1)) else (if a0 > a1 then (some 1) else (some 0))))))) = some r := h
 clear h
 replace H := Option.bind_eq_some_iff.mp H
 obtain ⟨t169, A30, H⟩ := H
 replace H : ((cmp_isNaN_int.f a1).bind fun t170 => (if t169 = true then (if t170 = true then (some 0) else (some (-1))) else (if t170 = true then (some 1) else (if a0 < a1 then (some (-1)) else (if a0 > a1 then (some 1) else (some 0)))))) = some r := H
 have A3 := Aside0.mk A30
 clear A30
 replace H := Option.bind_eq_some_iff.mp H
 obtain ⟨t170, A40, H⟩ := H
 replace H : (if t169 = true then (if t170 = true then (some 0) else (some (-1))) else (if t170 = true then (some 1) else (if a0 < a1 then (some (-1)) else (if a0 > a1 then (some 1) else (some 0))))) = some r := H
 have A4 := Aside0.mk A40
 clear A40
 by_cases c5 : t169 = true
 ·subst c5
  have H1 : (if t170 = true then (some 0) else (some (-1))) = some r := by rw [if_pos rfl] at H; exact H
  clear H
  have H := H1
  clear H1
  by_cases c6 : t170 = true
  ·subst c6
   have H1 : (some 0) = some r := by rw [if_pos rfl] at H; exact H
   clear H
   have H := H1
   clear H1
   obtain rfl := Option.some.inj H
   go_enter Tryd.func37, Tryd.ntmps37
   go_wp2_with (first | ((with_reducible refine gate_callee (f := 46) rfl ?_); refine goesL_ (some 8) rfl rfl Tryd.func46 (by kernel_rfl) rfl #[.int .i64 a0] rfl (by (try simp only [List.map_toArray, List.map_cons, List.map_nil]); first | done | rfl | (simp only [List.length_drop, List.length_take]; rfl)) ?_; (with_reducible refine (cmp_isNaN_int.calls a0 true _ A3.out).mono ?_); rintro e w' ⟨rfl, ⟨nd, rfl⟩⟩; refine ⟨_, rfl, ?_⟩) | ((with_reducible refine gate_callee (f := 46) rfl ?_); refine goesL_ (some 10) rfl rfl Tryd.func46 (by kernel_rfl) rfl #[.int .i64 a1] rfl (by (try simp only [List.map_toArray, List.map_cons, List.map_nil]); first | done | rfl | (simp only [List.length_drop, List.length_take]; rfl)) ?_; (with_reducible refine (cmp_isNaN_int.calls a1 true _ A4.out).mono ?_); rintro e w' ⟨rfl, ⟨nd, rfl⟩⟩; refine ⟨_, rfl, ?_⟩))
   go_ret
   exact ⟨by first | rfl | (simp; done) | (simp [*]; done), by repeat (first | exact Drawn0.refl _ | apply Drawn0.step)⟩
  ·replace c6 := Bool.eq_false_iff.mpr c6
   subst c6
   have H1 : (some (-1)) = some r := by rw [if_neg (show ¬ (false = true) by decide)] at H; exact H
   clear H
   have H := H1
   clear H1
   obtain rfl := Option.some.inj H
   go_enter Tryd.func37, Tryd.ntmps37
   go_wp2_with (first | ((with_reducible refine gate_callee (f := 46) rfl ?_); refine goesL_ (some 8) rfl rfl Tryd.func46 (by kernel_rfl) rfl #[.int .i64 a0] rfl (by (try simp only [List.map_toArray, List.map_cons, List.map_nil]); first | done | rfl | (simp only [List.length_drop, List.length_take]; rfl)) ?_; (with_reducible refine (cmp_isNaN_int.calls a0 true _ A3.out).mono ?_); rintro e w' ⟨rfl, ⟨nd, rfl⟩⟩; refine ⟨_, rfl, ?_⟩) | ((with_reducible refine gate_callee (f := 46) rfl ?_); refine goesL_ (some 10) rfl rfl Tryd.func46 (by kernel_rfl) rfl #[.int .i64 a1] rfl (by (try simp only [List.map_toArray, List.map_cons, List.map_nil]); first | done | rfl | (simp only [List.length_drop, List.length_take]; rfl)) ?_; (with_reducible refine (cmp_isNaN_int.calls a1 false _ A4.out).mono ?_); rintro e w' ⟨rfl, ⟨nd, rfl⟩⟩; refine ⟨_, rfl, ?_⟩))
   go_ret
   exact ⟨by first | rfl | (simp; done) | (simp [*]; done), by repeat (first | exact Drawn0.refl _ | apply Drawn0.step)⟩
 ·replace c5 := Bool.eq_false_iff.mpr c5
  subst c5
  have H1 : (if t170 = true then (some 1) else (if a0 < a1 then (some (-1)) else (if a0 > a1 then (some 1) else (some 0)))) = some r := by rw [if_neg (show ¬ (false = true) by decide)] at H; exact H
  clear H
  have H := H1
  clear H1
  by_cases c7 : t170 = true
  ·subst c7
   have H1 : (some 1) = some r := by rw [if_pos rfl] at H; exact H
   clear H
   have H := H1
   clear H1
   obtain rfl := Option.some.inj H
   go_enter Tryd.func37, Tryd.ntmps37
   go_wp2_with (first | ((with_reducible refine gate_callee (f := 46) rfl ?_); refine goesL_ (some 8) rfl rfl Tryd.func46 (by kernel_rfl) rfl #[.int .i64 a0] rfl (by (try simp only [List.map_toArray, List.map_cons, List.map_nil]); first | done | rfl | (simp only [List.length_drop, List.length_take]; rfl)) ?_; (with_reducible refine (cmp_isNaN_int.calls a0 false _ A3.out).mono ?_); rintro e w' ⟨rfl, ⟨nd, rfl⟩⟩; refine ⟨_, rfl, ?_⟩) | ((with_reducible refine gate_callee (f := 46) rfl ?_); refine goesL_ (some 10) rfl rfl Tryd.func46 (by kernel_rfl) rfl #[.int .i64 a1] rfl (by (try simp only [List.map_toArray, List.map_cons, List.map_nil]); first | done | rfl | (simp only [List.length_drop, List.length_take]; rfl)) ?_; (with_reducible refine (cmp_isNaN_int.calls a1 true _ A4.out).mono ?_); rintro e w' ⟨rfl, ⟨nd, rfl⟩⟩; refine ⟨_, rfl, ?_⟩))
   go_ret
   exact ⟨by first | rfl | (simp; done) | (simp [*]; done), by repeat (first | exact Drawn0.refl _ | apply Drawn0.step)⟩
  ·replace c7 := Bool.eq_false_iff.mpr c7
   subst c7
   have H1 : (if a0 < a1 then (some (-1)) else (if a0 > a1 then (some 1) else (some 0))) = some r := by rw [if_neg (show ¬ (false = true) by decide)] at H; exact H
   clear H
   have H := H1
   clear H1
   by_cases c8 : a0 < a1
   ·rw [if_pos c8] at H
    have c8b0 : decide (a0 < a1) = true := decide_eq_true c8
    clear c8
    obtain rfl := Option.some.inj H
    go_enter Tryd.func37, Tryd.ntmps37
    go_wp2_with (first | ((with_reducible refine gate_callee (f := 46) rfl ?_); refine goesL_ (some 8) rfl rfl Tryd.func46 (by kernel_rfl) rfl #[.int .i64 a0] rfl (by (try simp only [List.map_toArray, List.map_cons, List.map_nil]); first | done | rfl | (simp only [List.length_drop, List.length_take]; rfl)) ?_; (with_reducible refine (cmp_isNaN_int.calls a0 false _ A3.out).mono ?_); rintro e w' ⟨rfl, ⟨nd, rfl⟩⟩; refine ⟨_, rfl, ?_⟩) | ((with_reducible refine gate_callee (f := 46) rfl ?_); refine goesL_ (some 10) rfl rfl Tryd.func46 (by kernel_rfl) rfl #[.int .i64 a1] rfl (by (try simp only [List.map_toArray, List.map_cons, List.map_nil]); first | done | rfl | (simp only [List.length_drop, List.length_take]; rfl)) ?_; (with_reducible refine (cmp_isNaN_int.calls a1 false _ A4.out).mono ?_); rintro e w' ⟨rfl, ⟨nd, rfl⟩⟩; refine ⟨_, rfl, ?_⟩))
    go_ret
    exact ⟨by first | rfl | (simp; done) | (simp [*]; done), by repeat (first | exact Drawn0.refl _ | apply Drawn0.step)⟩
   ·rw [if_neg c8] at H
    have c8b0 : decide (a0 < a1) = false := decide_eq_false c8
    clear c8
    by_cases c9 : a0 > a1
    ·rw [if_pos c9] at H
     have c9b0 : decide (a1 < a0) = true := decide_eq_true c9
     clear c9
     obtain rfl := Option.some.inj H
     go_enter Tryd.func37, Tryd.ntmps37
     go_wp2_with (first | ((with_reducible refine gate_callee (f := 46) rfl ?_); refine goesL_ (some 8) rfl rfl Tryd.func46 (by kernel_rfl) rfl #[.int .i64 a0] rfl (by (try simp only [List.map_toArray, List.map_cons, List.map_nil]); first | done | rfl | (simp only [List.length_drop, List.length_take]; rfl)) ?_; (with_reducible refine (cmp_isNaN_int.calls a0 false _ A3.out).mono ?_); rintro e w' ⟨rfl, ⟨nd, rfl⟩⟩; refine ⟨_, rfl, ?_⟩) | ((with_reducible refine gate_callee (f := 46) rfl ?_); refine goesL_ (some 10) rfl rfl Tryd.func46 (by kernel_rfl) rfl #[.int .i64 a1] rfl (by (try simp only [List.map_toArray, List.map_cons, List.map_nil]); first | done | rfl | (simp only [List.length_drop, List.length_take]; rfl)) ?_; (with_reducible refine (cmp_isNaN_int.calls a1 false _ A4.out).mono ?_); rintro e w' ⟨rfl, ⟨nd, rfl⟩⟩; refine ⟨_, rfl, ?_⟩))
     go_ret
     exact ⟨by first | rfl | (simp; done) | (simp [*]; done), by repeat (first | exact Drawn0.refl _ | apply Drawn0.step)⟩
    ·rw [if_neg c9] at H
     have c9b0 : decide (a1 < a0) = false := decide_eq_false c9
     clear c9
     obtain rfl := Option.some.inj H
     go_enter Tryd.func37, Tryd.ntmps37
     go_wp2_with (first | ((with_reducible refine gate_callee (f := 46) rfl ?_); refine goesL_ (some 8) rfl rfl Tryd.func46 (by kernel_rfl) rfl #[.int .i64 a0] rfl (by (try simp only [List.map_toArray, List.map_cons, List.map_nil]); first | done | rfl | (simp only [List.length_drop, List.length_take]; rfl)) ?_; (with_reducible refine (cmp_isNaN_int.calls a0 false _ A3.out).mono ?_); rintro e w' ⟨rfl, ⟨nd, rfl⟩⟩; refine ⟨_, rfl, ?_⟩) | ((with_reducible refine gate_callee (f := 46) rfl ?_); refine goesL_ (some 10) rfl rfl Tryd.func46 (by kernel_rfl) rfl #[.int .i64 a1] rfl (by (try simp only [List.map_toArray, List.map_cons, List.map_nil]); first | done | rfl | (simp only [List.length_drop, List.length_take]; rfl)) ?_; (with_reducible refine (cmp_isNaN_int.calls a1 false _ A4.out).mono ?_); rintro e w' ⟨rfl, ⟨nd, rfl⟩⟩; refine ⟨_, rfl, ?_⟩))
     go_ret
     exact ⟨by first | rfl | (simp; done) | (simp [*]; done), by repeat (first | exact Drawn0.refl _ | apply Drawn0.step)⟩

end Go.Proofs.YteffcgocnkcpiaaDoor.Q
namespace Go.Proofs.YteffcgocnkcpiaaDoor.Q
open Go.RowKit Go.Proofs.YteffcgocnkcpiaaDoorW.PrintWords Go.Proofs.YteffcgocnkcpiaaDoorW.PrintLast Go.Proofs.YteffcgocnkcpiaaDoorW.PrintMore
attribute [local go_sem] max2_int min2_int max_two min_two max_three min_three max_four min_four   -- for this text's walks alone
set_option linter.unusedVariables false
set_option linter.unusedSimpArgs false

/-! ### slices_Compare_int_int: function 26 -/
def slices_Compare_int_int.l0 : Nat → List Int → List Int → List Int → Int → Int → Option (Int)
 | 0, _, _, _, _, _ => none
 | k + 1, x0, x1, x9, x10, x11 => if x11 < x10 then (if 0 ≤ x11 then (if x11 < (x9.length : Int) then (if x11 ≥ (x1.length : Int) then (some 1) else (if x11 < (x1.length : Int) then ((cmp_Compare_int.f (rd x9 x11) (rd x1 x11)).bind fun t173 => (if t173 = 0 then (slices_Compare_int_int.l0 k x0 x1 x9 x10 (wrap64 (x11 + 1))) else (some t173))) else (none))) else (none)) else (none)) else (if (x0.length : Int) < (x1.length : Int) then (some (-1)) else (some 0))
def slices_Compare_int_int.f (k : Nat) (l0 : List Int) (l1 : List Int) : Option (Int) := slices_Compare_int_int.l0 k l0 l1 l0 (l0.length : Int) 0
theorem slices_Compare_int_int.mono_l : ∀ k, (∀ y0 y1 y2 y3 y4, LeO (slices_Compare_int_int.l0 k y0 y1 y2 y3 y4) (slices_Compare_int_int.l0 (k + 1) y0 y1 y2 y3 y4))
 | 0 => fun _ _ _ _ _ r h => by simp [slices_Compare_int_int.l0] at h
 | k + 1 => by
  have ih0 := slices_Compare_int_int.mono_l k
  ·intro y0 y1 y2 y3 y4
   unfold slices_Compare_int_int.l0
   repeat' first
   | (with_reducible exact ih0 _ _ _ _ _)
   | (with_reducible exact LeO.refl _)
   | (with_reducible exact LeO.none _)
   | (with_reducible refine LeO.ite ?_ ?_)
   | (with_reducible refine LeO.bind ?_ (fun _ => ?_))
   | exact ih0 _ _ _ _ _
   | exact LeO.none _
   | refine LeO.ite ?_ ?_
   | refine LeO.bind ?_ (fun _ => ?_)
theorem slices_Compare_int_int.mono : ∀ a0 a1 k, LeO (slices_Compare_int_int.f k a0 a1) (slices_Compare_int_int.f (k + 1) a0 a1) := by
 intro a0 a1 k
 have ih0 := slices_Compare_int_int.mono_l k
 unfold slices_Compare_int_int.f
 repeat' first
   | (with_reducible exact ih0 _ _ _ _ _)
   | (with_reducible exact LeO.refl _)
   | (with_reducible exact LeO.none _)
   | (with_reducible refine LeO.ite ?_ ?_)
   | (with_reducible refine LeO.bind ?_ (fun _ => ?_))
   | exact ih0 _ _ _ _ _
   | exact LeO.none _
   | refine LeO.ite ?_ ?_
   | refine LeO.bind ?_ (fun _ => ?_)
set_option maxHeartbeats 8000000 in
set_option maxRecDepth 100000 in
theorem slices_Compare_int_int.calls (k : Nat) (A0 : Option Addr) (c0 : Nat) (l0 : List Int) (A1 : Option Addr) (c1 : Nat) (l1 : List Int) (r : Int) (w : World) (hr0 : Kd.C (Kd.int .i64) w A0 l0.length l0) (hc0 : l0.length ≤ c0) (hr1 : Kd.C (Kd.int .i64) w A1 l1.length l1) (hc1 : l1.length ≤ c1) (h : slices_Compare_int_int.f k l0 l1 = some r) :
  Calls Tryd.prog 26 #[.slice A0 l0.length c0, .slice A1 l1.length c1] w fun e w' => e = .returned (.int .i64 r) ∧ Drawn0 w w' := by
 have HR0 := Aside0.mk hr0
 have HC0 := Aside0.mk hc0
 clear hr0 hc0
 have HR1 := Aside0.mk hr1
 have HC1 := Aside0.mk hc1
 clear hr1 hc1
 have H : (slices_Compare_int_int.l0 k l0 l1 l0 (l0.length : Int) 0) = some r := h
 clear h
 have H' := Aside0.mk H
 clear H
 go_enter Tryd.func26, Tryd.ntmps26
 go_wp2
 go_loopg [11] k (fun kq v11 w' => ∃ (x11_1 : Int), v11 = .int .i64 x11_1 ∧ Aside0 (slices_Compare_int_int.l0 kq l0 l1 l0 (l0.length : Int) x11_1 = some r) ∧ Aside0 (kq ≤ k) ∧ Drawn0 w w')
 case atStart => exact ⟨(0), (by first | rfl | (simp; done) | (simp [*]; done)), H', ⟨Nat.le_refl _⟩, by repeat (first | exact Drawn0.refl _ | apply Drawn0.step)⟩
 case round =>
  clear H'
  try clear c1
  try clear c2
  try clear p2
  obtain ⟨x11_1, rfl, HA, HK1, ⟨m1, rfl⟩⟩ := hrel
  cases gk with
  | zero => exact absurd HA.out (by simp [slices_Compare_int_int.l0])
  | succ k1 =>
   have H := HA.out
   clear HA
   simp only [slices_Compare_int_int.l0] at H
   by_cases c3 : x11_1 < (l0.length : Int)
   ·rw [if_pos c3] at H
    have c3b0 : decide (x11_1 < (l0.length : Int)) = true := decide_eq_true c3
    clear c3
    by_cases c4 : 0 ≤ x11_1
    ·rw [if_pos c4] at H
     have c4b0 : decide (0 ≤ x11_1) = true := decide_eq_true c4
     clear c4
     by_cases c5 : x11_1 < (l0.length : Int)
     ·rw [if_pos c5] at H
      have c5b0 : decide (x11_1 < (l0.length : Int)) = true := decide_eq_true c5
      clear c5
      by_cases c6 : x11_1 ≥ (l1.length : Int)
      ·rw [if_pos c6] at H
       have c6b0 : decide ((l1.length : Int) ≤ x11_1) = true := decide_eq_true c6
       clear c6
       obtain rfl := Option.some.inj H
       have p171 : 0 ≤ (x11_1 : Int) := of_decide_eq_true (by first | (with_reducible assumption) | assumption)
       have q171 : x11_1 < (l0.length : Int) := of_decide_eq_true (by first | (with_reducible assumption) | assumption)
       obtain ⟨ad171, e171, hx171_0⟩ := Kd.at_int HR0.out x11_1 p171 q171
       cases e171
       replace p171 := eq_true p171
       replace q171 := eq_true q171
       go_wp2
       go_ret
       exact ⟨by first | rfl | (simp; done) | (simp [*]; done), by repeat (first | exact Drawn0.refl _ | apply Drawn0.step)⟩
      ·rw [if_neg c6] at H
       have c6b0 : decide ((l1.length : Int) ≤ x11_1) = false := decide_eq_false c6
       clear c6
       by_cases c7 : x11_1 < (l1.length : Int)
       ·rw [if_pos c7] at H
        have c7b0 : decide (x11_1 < (l1.length : Int)) = true := decide_eq_true c7
        clear c7
        replace H := Option.bind_eq_some_iff.mp H
        obtain ⟨t173, A80, H⟩ := H
        replace H : (if t173 = 0 then (slices_Compare_int_int.l0 k1 l0 l1 l0 (l0.length : Int) (wrap64 (x11_1 + 1))) else (some t173)) = some r := H
        have A8 := Aside0.mk A80
        clear A80
        by_cases c9 : t173 = 0
        ·rw [if_pos c9] at H
         have c9b0 : (t173 == 0) = true := beq_iff_eq.mpr c9
         have c9b1 : (t173 != 0) = false := bne_eq_false_iff_eq.mpr c9
         clear c9
         have H' := Aside0.mk H
         clear H
         have p171 : 0 ≤ (x11_1 : Int) := of_decide_eq_true (by first | (with_reducible assumption) | assumption)
         have q171 : x11_1 < (l0.length : Int) := of_decide_eq_true (by first | (with_reducible assumption) | assumption)
         obtain ⟨ad171, e171, hx171_0⟩ := Kd.at_int HR0.out x11_1 p171 q171
         cases e171
         replace p171 := eq_true p171
         replace q171 := eq_true q171
         have p172 : 0 ≤ (x11_1 : Int) := of_decide_eq_true (by first | (with_reducible assumption) | assumption)
         have q172 : x11_1 < (l1.length : Int) := of_decide_eq_true (by first | (with_reducible assumption) | assumption)
         obtain ⟨ad172, e172, hx172_0⟩ := Kd.at_int HR1.out x11_1 p172 q172
         cases e172
         replace p172 := eq_true p172
         replace q172 := eq_true q172
         go_wp2_with (first | ((with_reducible refine gate_callee (f := 37) rfl ?_); refine goesL_ (some 26) rfl rfl Tryd.func37 (by kernel_rfl) rfl #[.int .i64 (rd l0 x11_1), .int .i64 (rd l1 x11_1)] rfl (by (try simp only [List.map_toArray, List.map_cons, List.map_nil]); first | done | rfl | (simp only [List.length_drop, List.length_take]; rfl)) ?_; (with_reducible refine (cmp_Compare_int.calls (rd l0 x11_1) (rd l1 x11_1) t173 _ A8.out).mono ?_); rintro e w' ⟨rfl, ⟨nd, rfl⟩⟩; refine ⟨_, rfl, ?_⟩))
         go_roundg k1
         case measure => have := HK1.out; omega
         case rel => exact ⟨(wrap64 (x11_1 + 1)), (by first | rfl | (simp; done) | (simp [*]; done)), H', ⟨by have := HK1.out; omega⟩, by repeat (first | exact Drawn0.refl _ | apply Drawn0.step)⟩
        ·rw [if_neg c9] at H
         have c9b0 : (t173 == 0) = false := beq_eq_false_iff_ne.mpr c9
         have c9b1 : (t173 != 0) = true := bne_iff_ne.mpr c9
         obtain rfl := Option.some.inj H
         have p171 : 0 ≤ (x11_1 : Int) := of_decide_eq_true (by first | (with_reducible assumption) | assumption)
         have q171 : x11_1 < (l0.length : Int) := of_decide_eq_true (by first | (with_reducible assumption) | assumption)
         obtain ⟨ad171, e171, hx171_0⟩ := Kd.at_int HR0.out x11_1 p171 q171
         cases e171
         replace p171 := eq_true p171
         replace q171 := eq_true q171
         have p172 : 0 ≤ (x11_1 : Int) := of_decide_eq_true (by first | (with_reducible assumption) | assumption)
         have q172 : x11_1 < (l1.length : Int) := of_decide_eq_true (by first | (with_reducible assumption) | assumption)
         obtain ⟨ad172, e172, hx172_0⟩ := Kd.at_int HR1.out x11_1 p172 q172
         cases e172
         replace p172 := eq_true p172
         replace q172 := eq_true q172
         go_wp2_with (first | ((with_reducible refine gate_callee (f := 37) rfl ?_); refine goesL_ (some 26) rfl rfl Tryd.func37 (by kernel_rfl) rfl #[.int .i64 (rd l0 x11_1), .int .i64 (rd l1 x11_1)] rfl (by (try simp only [List.map_toArray, List.map_cons, List.map_nil]); first | done | rfl | (simp only [List.length_drop, List.length_take]; rfl)) ?_; (with_reducible refine (cmp_Compare_int.calls (rd l0 x11_1) (rd l1 x11_1) t173 _ A8.out).mono ?_); rintro e w' ⟨rfl, ⟨nd, rfl⟩⟩; refine ⟨_, rfl, ?_⟩))
         go_ret
         exact ⟨by first | rfl | (simp; done) | (simp [*]; done), by repeat (first | exact Drawn0.refl _ | apply Drawn0.step)⟩
       ·rw [if_neg c7] at H
        exact absurd H (by simp)
     ·rw [if_neg c5] at H
      exact absurd H (by simp)
    ·rw [if_neg c4] at H
     exact absurd H (by simp)
   ·rw [if_neg c3] at H
    have c3b0 : decide (x11_1 < (l0.length : Int)) = false := decide_eq_false c3
    clear c3
    by_cases c10 : (l0.length : Int) < (l1.length : Int)
    ·rw [if_pos c10] at H
     have c10b0 : decide ((l0.length : Int) < (l1.length : Int)) = true := decide_eq_true c10
     have c10b1 : decide (l0.length < l1.length) = true := decide_eq_true (Int.ofNat_lt.mp c10)
     clear c10
     obtain rfl := Option.some.inj H
     go_wp2
     go_ret
     exact ⟨by first | rfl | (simp; done) | (simp [*]; done), by repeat (first | exact Drawn0.refl _ | apply Drawn0.step)⟩
    ·rw [if_neg c10] at H
     have c10b0 : decide ((l0.length : Int) < (l1.length : Int)) = false := decide_eq_false c10
     have c10b1 : decide (l0.length < l1.length) = false := decide_eq_false (fun h => c10 (Int.ofNat_lt.mpr h))
     clear c10
     obtain rfl := Option.some.inj H
     go_wp2
     go_ret
     exact ⟨by first | rfl | (simp; done) | (simp [*]; done), by repeat (first | exact Drawn0.refl _ | apply Drawn0.step)⟩

end Go.Proofs.YteffcgocnkcpiaaDoor.Q
namespace Go.Proofs.YteffcgocnkcpiaaDoor.Q
open Go.RowKit Go.Proofs.YteffcgocnkcpiaaDoorW.PrintWords Go.Proofs.YteffcgocnkcpiaaDoorW.PrintLast Go.Proofs.YteffcgocnkcpiaaDoorW.PrintMore
attribute [local go_sem] max2_int min2_int max_two min_two max_three min_three max_four min_four   -- for this text's walks alone
set_option linter.unusedVariables false
set_option linter.unusedSimpArgs false

/-! ### impl_OneColourGroup: function 11 (proved by hand) -/
/-- Those behind a who are left. -/
def impl_groups.nl (left : Int) (t : List Int) (a : Int) : Int := Go.bits .andNot .u16 (Go.bits .and .u16 left (rd t a)) (IntKind.u16.wrap (shl .u16 1 a - 1))
mutual
/-- A function with a state is called for a group and for all that begin with it. -/
def impl_groups.g {σ : Type} (e : σ → List Int → σ) : Nat → List Int → List Int → Int → σ → Option σ
 | 0, _, _, _, _ => none
 | k + 1, t, o, left, s => (impl_listed.f k left).bind fun ls => impl_groups.l e k t o left ls 0 (e s o)
def impl_groups.l {σ : Type} (e : σ → List Int → σ) : Nat → List Int → List Int → Int → List Int → Int → σ → Option σ
 | 0, _, _, _, _, _, _ => none
 | k + 1, t, o, left, ls, i, s => if i < (ls.length : Int) then (if 0 ≤ i then ((slices_Clone_int_int.f o).bind fun u => if u.length < 17592186044416 then (if 0 ≤ rd ls i then (if rd ls i < (t.length : Int) then ((impl_groups.g e k t (u ++ [rd ls i]) (impl_groups.nl left t (rd ls i)) s).bind fun s' => impl_groups.l e k t o left ls (wrap64 (i + 1)) s') else none) else none) else none) else none) else some s
end
theorem impl_groups.mono_l {σ : Type} (e : σ → List Int → σ) : ∀ k, (∀ y0 y1 y2 y3, LeO (impl_groups.g e k y0 y1 y2 y3) (impl_groups.g e (k + 1) y0 y1 y2 y3)) ∧ (∀ y0 y1 y2 y3 y4 y5, LeO (impl_groups.l e k y0 y1 y2 y3 y4 y5) (impl_groups.l e (k + 1) y0 y1 y2 y3 y4 y5))
 | 0 => ⟨fun _ _ _ _ r h => by simp [impl_groups.g] at h, fun _ _ _ _ _ _ r h => by simp [impl_groups.l] at h⟩
 | k + 1 => by
  obtain ⟨ih0, ih1⟩ := impl_groups.mono_l e k
  refine ⟨?_, ?_⟩
  ·intro y0 y1 y2 y3
   unfold impl_groups.g
   exact LeO.bind (impl_listed.mono _ _) (fun _ => ih1 _ _ _ _ _ _)
  ·intro y0 y1 y2 y3 y4 y5
   unfold impl_groups.l
   exact LeO.ite (LeO.ite (LeO.bind (LeO.refl _) (fun _ => LeO.ite (LeO.ite (LeO.ite (LeO.bind (ih0 _ _ _ _) (fun _ => ih1 _ _ _ _ _ _)) (LeO.refl _)) (LeO.refl _)) (LeO.refl _))) (LeO.refl _)) (LeO.refl _)
structure impl_groups.Inv {σ : Type} (St : σ → World → Prop) (Sg : Nat → Prop) (ge gg gt : Nat) (At : Option Addr) (ct : Nat) (t : List Int) (fv : Value) (w0 : World) (W : World) (s : σ) : Prop where
 be : W.heap[ge]? = some (.cells #[fv] 42 (0, 0))
 bg : W.heap[gg]? = some (.cells #[.func (.func 43) #[] #[.pointer (some ⟨ge, 0, none⟩), .pointer (some ⟨gg, 0, none⟩), .pointer (some ⟨gt, 0, none⟩)]] 56 (0, 0))
 bt : W.heap[gt]? = some (.cells #[.slice At t.length ct] 50 (0, 0))
 ht : Kd.R (Kd.int .u16) 57 W w0.heap.size (fun k_ => ¬ Sg k_) (.slice At t.length ct) t
 st : St s W
 hb : Below w0.heap.size w0 W
def impl_groups.T4 : Bool × List (List Nat × List Nat) := (true, [([], []), ([], []), ([1], [1]), ([], []), ([3], [3]), ([2, 4, 2], [2, 4]), ([], []), ([], []), ([], []), ([7, 8], [7, 8]), ([9], [9]), ([6, 10], [6, 10]), ([], []), ([12], [12]), ([13], [13]), ([11, 14], [11, 14]), ([0, 5, 15, 5], [0, 5, 15])])
def impl_groups.B4 : List Nat := [0, 0, 2, 0, 8, 30, 0, 0, 0, 384, 896, 1984, 0, 4096, 12288, 32704, 65535]
theorem impl_groups.tab4 : rtab .any (opsOf Tryd.f43 4) = impl_groups.T4 := by kernel_rfl
theorem impl_groups.bits4 : waitsOk impl_groups.T4.2 impl_groups.B4 = true := by kernel_rfl
def impl_groups.T3 : Bool × List (List Nat × List Nat) := (true, [([], []), ([], []), ([], []), ([2], [2]), ([3], [3]), ([4], [4]), ([0, 1, 5], [0, 1, 5])])
def impl_groups.B3 : List Nat := [0, 0, 0, 4, 12, 28, 63]
theorem impl_groups.tab3 : rtab .any (opsOf Tryd.f35 3) = impl_groups.T3 := by kernel_rfl
theorem impl_groups.bits3 : waitsOk impl_groups.T3.2 impl_groups.B3 = true := by kernel_rfl
theorem impl_groups.goesV_ {P : Program} {Q : Exit → Act → World → Prop} {ops : Array Oper} {oi : Oper} {N : Option Tmp} {a : Act} {w : World} {K : Act → World → Prop} {f : FuncId} {fn : Func} {as_ : Array Operand} {ts : Array TypeId} {x : Operand} {first cap : Array Value} (hf : P.funcs[f]? = some fn) (hname : (fn.name == "runtime.NumGoroutine") = false) (hb : fn.body.isSome = true) (args : Array Value)
  (hw : Region.wanted oi (yielded ops a.tmps) = true) (hN : oi.dst = N) (hop : oi.op = .call { callee := .value x, args := as_, argTypes := ts }) (hx : a.eval x = .func (.func f) first cap) (hargs : first ++ as_.map a.eval ++ cap = args)
  (h : Calls P f args w fun e w' => ∃ v, e = .returned v ∧ K (a.put N v) w') : if Region.wanted oi (yielded ops a.tmps) = true then Oper.wp P oi a w K Q else K (a.put N undef) w := by
 refine call_ f args hw hN ?_ h
 have he := enters_ hf hname hb args w
 unfold execOp
 simp [hop, resolve, Deferred.ofValue, invoke, hx, hargs, he]
theorem impl_groups.goesVL_ {P : Program} {Q : Exit → Act → World → Prop} {ops : Array Oper} {rest : List Oper} {oi : Oper} {a : Act} {w : World} (N : Option Tmp) (hd : oi.dst = N) (hg : oi.guard = none) {f : FuncId} {fn : Func} {as_ : Array Operand} {ts : Array TypeId} {x : Operand} {first cap : Array Value} (hf : P.funcs[f]? = some fn) (hname : (fn.name == "runtime.NumGoroutine") = false) (hb : fn.body.isSome = true) (args : Array Value)
  (hop : oi.op = .call { callee := .value x, args := as_, argTypes := ts }) (hx : a.eval x = .func (.func f) first cap) (hargs : first ++ as_.map a.eval ++ cap = args)
  (h : Calls P f args w fun e w' => ∃ v, e = .returned v ∧ wpList P ops Q rest (a.put N v) w') : wpList P ops Q (oi :: rest) a w := by
 refine wpList_plain hg fun K hK => ?_
 have he := enters_ hf hname hb args w
 have hrun : (execOp a.eval oi).run P w = .ok (.enter f args) w := by
  unfold execOp
  simp [hop, resolve, Deferred.ofValue, invoke, hx, hargs, he]
 unfold Oper.wp
 rw [hrun, Oper.upon_enter]
 refine h.mono fun e w'' hh => ?_
 obtain ⟨v, rfl, hk⟩ := hh
 subst hd
 exact hK _ _ hk
theorem impl_groups.run_store_func (P : Program) (w : World) (a : Addr) (m : Mode) (f : Fn) (rc lb : Array Value) : (store a (.func f rc lb) m).run P w = stored P w a (.func f rc lb) m := run_store P w a _ m rfl
attribute [local go_sem] impl_groups.run_store_func
theorem impl_groups.cell {W : World} {at_ : Addr} {c base : Nat} {ok : Nat → Prop} {t : List Int} {a : Int} (h : Kd.R (Kd.int .u16) 57 W base ok (.slice (some at_) t.length c) t) (p1 : 0 ≤ a) (p2 : a < (t.length : Int)) : W.cell? (at_.add a.toNat) = some (.int .u16 (rd t a)) := by
 obtain ⟨ad, e, h⟩ := Kd.at_int (Kd.R_reads' h).2.2 a p1 p2
 cases e
 exact h
theorem impl_groups.Inv.kept {σ : Type} {St : σ → World → Prop} {Sg : Nat → Prop} {ge gg gt : Nat} {At : Option Addr} {ct : Nat} {t : List Int} {fv : Value} {w0 W W' : World} {s s' : σ} (h : impl_groups.Inv St Sg ge gg gt At ct t fv w0 W s) (hk : Kept W W' Sg) (hn : ¬ Sg ge ∧ ¬ Sg gg ∧ ¬ Sg gt) (hs : St s' W') (hb : Below w0.heap.size w0 W') : impl_groups.Inv St Sg ge gg gt At ct t fv w0 W' s' :=
 ⟨blk_kept h.be hk hn.1, blk_kept h.bg hk hn.2.1, blk_kept h.bt hk hn.2.2, Kd.R_kept h.ht hk (fun _ h_ => h_), hs, hb⟩
theorem impl_groups.Inv.below {σ : Type} {St : σ → World → Prop} {Sg : Nat → Prop} {ge gg gt : Nat} {At : Option Addr} {ct : Nat} {t : List Int} {fv : Value} {w0 W W' : World} {s : σ} (hik : ∀ s W W', St s W → Below W.heap.size W W' → St s W') (h : impl_groups.Inv St Sg ge gg gt At ct t fv w0 W s) (hb : Below W.heap.size W W') : impl_groups.Inv St Sg ge gg gt At ct t fv w0 W' s :=
 ⟨blk_below h.be hb, blk_below h.bg hb, blk_below h.bt hb, Kd.R_below h.ht hb, hik s W W' h.st hb, below_step h.hb hb⟩
set_option maxHeartbeats 16000000 in
set_option maxRecDepth 100000 in
theorem impl_groups.grow {σ : Type} (St : σ → World → Prop) (Sg : Nat → Prop) (e : σ → List Int → σ) (g : FuncId) (fn : Func) (lb : Array Value) (ge gg gt : Nat) (w0 : World) (hfn : Tryd.prog.funcs[g]? = some fn) (hnm : (fn.name == "runtime.NumGoroutine") = false) (hbd : fn.body.isSome = true) (hTb : Tab w0)
  (hik : ∀ s W W', St s W → Below W.heap.size W W' → St s W') (hsl : ∀ s W, St s W → ∀ k_, Sg k_ → k_ < W.heap.size)
  (hE : ∀ (W : World) (A : Option Addr) (c : Nat) (o : List Int) (s : σ), St s W → Below w0.heap.size w0 W → Kd.R (Kd.int .i64) 3 W w0.heap.size (fun k_ => ¬ Sg k_) (.slice A o.length c) o → o.length ≤ 17592186044416 → Calls Tryd.prog g (#[.slice A o.length c] ++ lb) W fun e' w' => e' = .returned (.tuple #[]) ∧ St (e s o) w' ∧ Below w0.heap.size w0 w' ∧ Kept W w' Sg) (hS : ¬ Sg ge ∧ ¬ Sg gg ∧ ¬ Sg gt) :
  ∀ (k : Nat) (At : Option Addr) (ct : Nat) (t : List Int) (A : Option Addr) (c : Nat) (o : List Int) (left : Int) (s r : σ) (w : World), impl_groups.Inv St Sg ge gg gt At ct t (.func (.func g) #[] lb) w0 w s → Kd.R (Kd.int .i64) 3 w w0.heap.size (fun k_ => ¬ Sg k_) (.slice A o.length c) o → o.length ≤ 17592186044416 → impl_groups.g e k t o left s = some r →
  Calls Tryd.prog 43 #[.slice A o.length c, .int .u16 left, .pointer (some ⟨ge, 0, none⟩), .pointer (some ⟨gg, 0, none⟩), .pointer (some ⟨gt, 0, none⟩)] w fun e' w' => e' = .returned (.tuple #[]) ∧ impl_groups.Inv St Sg ge gg gt At ct t (.func (.func g) #[] lb) w0 w' r ∧ Kept w w' Sg := by
 have HFN := Aside0.mk hfn
 have HNM := Aside0.mk hnm
 have HBD := Aside0.mk hbd
 have HTB := Aside0.mk hTb
 have HIK := Aside0.mk hik
 have HSL := Aside0.mk hsl
 have HE := Aside0.mk hE
 have HS := Aside0.mk hS
 clear hfn hnm hbd hTb hik hsl hE hS
 intro kk
 induction kk using Nat.strongRecOn with
 | ind kk IH0 =>
 intro At ct t A c o left s r w hinv hx hol H
 have HOL := Aside0.mk hol
 have IH := Aside0.mk IH0
 have INV := Aside0.mk hinv
 have HX := Aside0.mk hx
 have HCX := Aside0.mk (Kd.R_reads' hx).2.1
 clear IH0 hinv hx hol
 have hze : w.cell? ⟨ge, 0, none⟩ = some (.func (.func g) #[] lb) := (blk_cell INV.out.be 0).trans rfl
 rcases kk with _ | k1
 ·simp [impl_groups.g] at H
 simp only [impl_groups.g] at H
 obtain ⟨ls, hls, H⟩ := Option.bind_eq_some_iff.1 H
 have A1 := Aside0.mk hls
 have H' := Aside0.mk H
 clear hls H
 go_enter Tryd.func43, Tryd.ntmps43
 go_wp2_with (first | ((with_reducible refine gate_dst (N := 11) rfl ?_); refine impl_groups.goesVL_ (some 11) rfl rfl HFN.out HNM.out HBD.out (#[.slice A o.length c] ++ lb) rfl rfl (by simp [Act.eval]) ?_; refine (HE.out _ A c o s INV.out.st INV.out.hb HX.out HOL.out).mono ?_; rintro e_ w1 ⟨rfl, hst1, hB1, hk1⟩; refine ⟨_, rfl, ?_⟩; clear hze; have I1 := Aside0.mk (impl_groups.Inv.kept INV.out hk1 HS.out hst1 hB1); have HX1 := Aside0.mk (Kd.R_kept HX.out hk1 (fun _ h_ => h_)); have HK1 := Aside0.mk hk1; clear hst1 hB1 hk1) | (go_at_call 44; (with_reducible refine (@impl_listed.calls k1 left ls _ ?sG A1.out).mono ?_); (case sG => exact Tab.below HTB.out I1.out.hb); rintro e_ w2 ⟨v13, rfl, hl0, hb⟩; have I2 := Aside0.mk (impl_groups.Inv.below HIK.out I1.out hb); have HX2 := Aside0.mk (Kd.R_below HX1.out hb); have HK2 := Aside0.mk (Kept.below HK1.out hb); have HL2 := Aside0.mk ((show Kd.R (Kd.int .i64) 3 w2 w0.heap.size (fun k_ => ¬ Sg k_) v13 ls from Kd.R_lower (Kd.R_mono (ok' := fun k_ => ¬ Sg k_) (Kd.R_bound hl0) (fun k_ hk_ hs_ => Nat.lt_irrefl _ (Nat.lt_of_lt_of_le (HSL.out _ _ I1.out.st _ hs_) hk_.2.1))) I1.out.hb.size)); obtain ⟨Al, cl, el_⟩ := Kd.R_slice HL2.out; subst el_; clear hl0 hb))
 go_loopg [15] k1 (fun kq v15 w' => ∃ (i : Int) (s' : σ), v15 = .int .i64 i ∧ Aside0 (impl_groups.l e kq t o left ls i s' = some r) ∧ Aside0 (kq ≤ k1) ∧ Aside0 (impl_groups.Inv St Sg ge gg gt At ct t (.func (.func g) #[] lb) w0 w' s') ∧ Aside0 (Kd.R (Kd.int .i64) 3 w' w0.heap.size (fun k_ => ¬ Sg k_) (.slice A o.length c) o) ∧ Aside0 (Kd.R (Kd.int .i64) 3 w' w0.heap.size (fun k_ => ¬ Sg k_) (.slice Al ls.length cl) ls) ∧ Aside0 (Kept w w' Sg))
 case atStart => exact ⟨0, e s o, (by first | rfl | (simp; done) | (simp [*]; done)), H', ⟨Nat.le_refl _⟩, ⟨(impl_groups.Inv.below HIK.out I2.out (by repeat (first | exact Below.refl _ _ | apply below_alloc | apply pw_below_drewN | apply below_drew1)))⟩, ⟨(by (with_reducible repeat (first | apply Kd.R_alloc | apply Kd.R_drewN | apply Kd.R_drew)); exact HX2.out)⟩, ⟨(by (with_reducible repeat (first | apply Kd.R_alloc | apply Kd.R_drewN | apply Kd.R_drew)); exact HL2.out)⟩, ⟨(by (with_reducible repeat (first | refine Kept.alloc ?_ _ | refine Kept.drewN ?_ _ | refine Kept.drew ?_)); exact HK2.out)⟩⟩
 case round =>
  clear H' INV I1 I2 HX HX1 HX2 HL2 HK1 HK2
  obtain ⟨i, s, rfl, HA, HKk, INV, HX, HLS, HK⟩ := hrel
  have H := HA.out
  clear HA
  rcases gk with _ | k2
  ·simp [impl_groups.l] at H
  simp only [impl_groups.l] at H
  by_cases q0 : i < (ls.length : Int)
  rotate_left
  ·rw [if_neg q0] at H
   have q01 : decide (i < (ls.length : Int)) = false := decide_eq_false q0
   clear q0
   obtain rfl := Option.some.inj H
   go_wp2
   first | go_end0 | ((try simp only [Exit.inBlock, Exit.then]); refine bodyPost_ret (results_none rfl _ _ _) rfl ?_)
   exact ⟨rfl, (impl_groups.Inv.below HIK.out INV.out (by repeat (first | exact Below.refl _ _ | apply below_alloc | apply pw_below_drewN | apply below_drew1))), (by (with_reducible repeat (first | refine Kept.alloc ?_ _ | refine Kept.drewN ?_ _ | refine Kept.drew ?_)); exact HK.out)⟩
  rw [if_pos q0] at H
  have q01 : decide (i < (ls.length : Int)) = true := decide_eq_true q0
  by_cases q1 : 0 ≤ i
  rotate_left
  ·rw [if_neg q1] at H; cases H
  rw [if_pos q1] at H
  obtain ⟨al_, eL_, hla⟩ := Kd.at_int (Kd.R_reads' HLS.out).2.2 i q1 q0
  cases eL_
  replace H := Option.bind_eq_some_iff.1 H
  obtain ⟨u, hu, H⟩ := H
  have A2 := Aside0.mk hu
  clear hu
  by_cases hl_ : u.length < 17592186044416
  rotate_left
  ·rw [if_neg hl_] at H; cases H
  rw [if_pos hl_] at H
  have HL := Aside0.mk hl_
  clear hl_
  obtain ⟨a, ha_⟩ : ∃ a_ : Int, a_ = rd ls i := ⟨_, rfl⟩
  rw [← ha_] at H hla
  clear ha_
  by_cases p1 : 0 ≤ a
  rotate_left
  ·rw [if_neg p1] at H; cases H
  rw [if_pos p1] at H
  by_cases p2 : a < (t.length : Int)
  rotate_left
  ·rw [if_neg p2] at H; cases H
  rw [if_pos p2] at H
  obtain ⟨at_, eT_, hta⟩ := Kd.at_int (Kd.R_reads' INV.out.ht).2.2 a p1 p2
  cases eT_
  clear hta
  obtain ⟨j, hj⟩ : ∃ j_ : Int, (shl .u16 1 a) = j_ := ⟨_, rfl⟩
  rw [show impl_groups.nl left t a = (Go.bits .andNot .u16 (Go.bits .and .u16 left (rd t a)) (IntKind.u16.wrap (j - 1))) from by unfold impl_groups.nl; rw [hj]] at H
  have hj_ : (IntKind.u16.wrap (1 * 2 ^ min a.toNat 16)) = j := hj
  have hjz : a ≤ 16 → (IntKind.u16.wrap (1 * 2 ^ a.toNat)) = j := shl_small hj
  have hju : (IntKind.u16.wrap (2 ^ min a.toNat 16)) = j := by have h_ := hj_; rw [Int.one_mul] at h_; exact h_
  have hjv : a ≤ 16 → (IntKind.u16.wrap (2 ^ a.toNat)) = j := fun hle_ => by have h_ := hjz hle_; rw [Int.one_mul] at h_; exact h_
  obtain ⟨z1, hz1⟩ : ∃ z_ : List Int, z_ = [a] := ⟨_, rfl⟩
  rw [← hz1] at H
  have NZ := Aside0.mk hz1
  have NZ1 := Aside0.mk (show z1.length = 1 from by rw [hz1]; rfl)
  obtain ⟨y, hy⟩ : ∃ y_ : List Int, y_ = u ++ z1 := ⟨_, rfl⟩
  rw [← hy] at H
  have NY := Aside0.mk hy
  have HYL := Aside0.mk (show y.length ≤ 17592186044416 from by rw [hy, List.length_append]; have := HL.out; have := NZ1.out; omega)
  clear hz1 hy
  replace H := Option.bind_eq_some_iff.1 H
  obtain ⟨s2, hs2, H⟩ := H
  have A4 := Aside0.mk hs2
  have H' := Aside0.mk H
  clear hs2 H
  replace q0 := eq_true q0
  replace q1 := eq_true q1
  replace p1 := eq_true p1
  replace p2 := eq_true p2
  go_wp2
  refine start_ (n := 17) (S := fun w' => w'.cell? ⟨gg, 0, none⟩ = some (.func (.func 43) #[] #[.pointer (some ⟨ge, 0, none⟩), .pointer (some ⟨gg, 0, none⟩), .pointer (some ⟨gt, 0, none⟩)]) ∧ w'.cell? ⟨gt, 0, none⟩ = some (.slice (some at_) t.length ct) ∧ w'.cell? (at_.add a.toNat) = some (.int .u16 (rd t a))) (ds := []) #[false, false, false, false, false, false, false, false, false, false, false, false, false, false, false, false, false] (by kernel_rfl) rfl rfl ⟨(blk_cell (blk_drew INV.out.bg) 0).trans rfl, (blk_cell (blk_drew INV.out.bt) 0).trans rfl, impl_groups.cell (Kd.R_drew INV.out.ht) (of_eq_true p1) (of_eq_true p2)⟩ (fun hHeld => ?_)
  refine with_tabW impl_groups.tab4 impl_groups.bits4 (fun HT_ HW_ => ?_)
  have ID := Aside0.mk (impl_groups.Inv.below HIK.out INV.out (below_drew1 (Below.refl _ _)))
  have HXd := Aside0.mk (Kd.R_drew HX.out)
  have HLd := Aside0.mk (Kd.R_drew HLS.out)
  have HKd := Aside0.mk (Kept.drew HK.out)
  clear INV HX HLS HK hla
  generalize wr.drew = wd at hHeld ID HXd HLd HKd ⊢
  have HBd := Aside0.mk (Below.refl wd.heap.size wd)
  refine pure_ (i := 1) (N := some 20) (v := ?_) (a' := ?_) #[false, true, false, false, false, false, false, false, false, false, false, false, false, false, false, false, false] rfl rfl (any_of HT_.out (by kernel_rfl)) (fun _ _ _ h => h) (Or.inl ⟨by rfl, ?_⟩) ?_ ?_
  rotate_left
  ·intro w'
   go_simp
   with_reducible rfl
  rotate_left
  ·simp only [Act.put, List.setIfInBounds_toArray, List.set_cons_zero, List.set_cons_succ, i64_w, i32_w]
   rfl
  refine pure_ (i := 3) (N := some 22) (v := ?_) (a' := ?_) #[false, true, false, true, false, false, false, false, false, false, false, false, false, false, false, false, false] rfl rfl (any_of HT_.out (by kernel_rfl)) (fun _ _ _ h => h) (Or.inl ⟨by rfl, ?_⟩) ?_ ?_
  rotate_left
  ·intro w'
   go_simp
   with_reducible rfl
  rotate_left
  ·simp only [Act.put, List.setIfInBounds_toArray, List.set_cons_zero, List.set_cons_succ, i64_w, i32_w]
   rfl
  refine pure_ (i := 6) (N := some 25) (v := ?_) (a' := ?_) #[false, true, false, true, false, false, true, false, false, false, false, false, false, false, false, false, false] rfl rfl (any_of HT_.out (by kernel_rfl)) (fun _ _ _ h => h) (Or.inl ⟨by rfl, ?_⟩) ?_ ?_
  rotate_left
  ·intro w'
   go_simp
   with_reducible rfl
  rotate_left
  ·simp only [Act.put, List.setIfInBounds_toArray, List.set_cons_zero, List.set_cons_succ, i64_w, i32_w]
   rfl
  refine pure_ (i := 8) (N := some 27) (v := ?_) (a' := ?_) #[false, true, false, true, false, false, true, false, true, false, false, false, false, false, false, false, false] rfl rfl (any_of HT_.out (by kernel_rfl)) (fun _ _ _ h => h) (Or.inl ⟨by rfl, ?_⟩) ?_ ?_
  rotate_left
  ·intro w'
   go_simp
   with_reducible rfl
  rotate_left
  ·simp only [Act.put, List.setIfInBounds_toArray, List.set_cons_zero, List.set_cons_succ, i64_w, i32_w]
   rfl
  refine pure_ (i := 12) (N := some 31) (v := ?_) (a' := ?_) #[false, true, false, true, false, false, true, false, true, false, false, false, true, false, false, false, false] rfl rfl (any_of HT_.out (by kernel_rfl)) (fun _ _ _ h => h) (Or.inl ⟨by rfl, ?_⟩) ?_ ?_
  rotate_left
  ·intro w'
   go_simp
   with_reducible rfl
  rotate_left
  ·simp only [Act.put, List.setIfInBounds_toArray, List.set_cons_zero, List.set_cons_succ, i64_w, i32_w]
   rfl
  refine pure_ (i := 13) (N := some 32) (v := ?_) (a' := ?_) #[false, true, false, true, false, false, true, false, true, false, false, false, true, true, false, false, false] rfl rfl (any_of HT_.out (by kernel_rfl)) (fun _ _ _ h => h) (Or.inl ⟨by rfl, ?_⟩) ?_ ?_
  rotate_left
  ·intro w'
   go_simp
   with_reducible rfl
  rotate_left
  ·simp only [Act.put, List.setIfInBounds_toArray, List.set_cons_zero, List.set_cons_succ, i64_w, i32_w]
   rfl
  refine pure_ (i := 14) (N := some 33) (v := ?_) (a' := ?_) #[false, true, false, true, false, false, true, false, true, false, false, false, true, true, true, false, false] rfl rfl (any_of HT_.out (by kernel_rfl)) (fun _ _ _ h => h) (Or.inl ⟨by rfl, ?_⟩) ?_ ?_
  rotate_left
  ·intro w'
   go_simp
   with_reducible rfl
  rotate_left
  ·simp only [Act.put, List.setIfInBounds_toArray, List.set_cons_zero, List.set_cons_succ, i64_w, i32_w]
   rfl
  refine take_ (i := 0) (N := some 19) (v := ?_) (a' := ?_) #[true, true, false, true, false, false, true, false, true, false, false, false, true, true, true, false, false] rfl rfl (take_ofW HT_.out HW_.out (by kernel_rfl)) (fun _ _ _ h => h) (Or.inl ⟨by rfl, ?_⟩) hHeld ?_ ?_
  rotate_left
  ·rintro w' ⟨s0_, s1_, s2_⟩
   go_simp
   with_reducible rfl
  rotate_left
  ·simp only [Act.put, List.setIfInBounds_toArray, List.set_cons_zero, List.set_cons_succ, i64_w, i32_w]
   rfl
  refine take_ (i := 7) (N := some 26) (v := ?_) (a' := ?_) #[true, true, false, true, false, false, true, true, true, false, false, false, true, true, true, false, false] rfl rfl (take_ofW HT_.out HW_.out (by kernel_rfl)) (fun _ _ _ h => h) (Or.inl ⟨by rfl, ?_⟩) hHeld ?_ ?_
  rotate_left
  ·rintro w' ⟨s0_, s1_, s2_⟩
   go_simp
   with_reducible rfl
  rotate_left
  ·simp only [Act.put, List.setIfInBounds_toArray, List.set_cons_zero, List.set_cons_succ, i64_w, i32_w]
   rfl
  refine pure_ (i := 9) (N := some 28) (v := ?_) (a' := ?_) #[true, true, false, true, false, false, true, true, true, true, false, false, true, true, true, false, false] rfl rfl (any_of HT_.out (by kernel_rfl)) (fun _ _ _ h => h) (Or.inl ⟨by rfl, ?_⟩) ?_ ?_
  rotate_left
  ·intro w'
   go_simp
   with_reducible rfl
  rotate_left
  ·simp only [Act.put, List.setIfInBounds_toArray, List.set_cons_zero, List.set_cons_succ, i64_w, i32_w]
   rfl
  refine take_ (i := 10) (N := some 29) (v := ?_) (a' := ?_) #[true, true, false, true, false, false, true, true, true, true, true, false, true, true, true, false, false] rfl rfl (take_ofW HT_.out HW_.out (by kernel_rfl)) (fun _ _ _ h => h) (Or.inl ⟨by rfl, ?_⟩) hHeld ?_ ?_
  rotate_left
  ·rintro w' ⟨s0_, s1_, s2_⟩
   go_simp
   with_reducible rfl
  rotate_left
  ·simp only [Act.put, List.setIfInBounds_toArray, List.set_cons_zero, List.set_cons_succ, i64_w, i32_w]
   rfl
  refine pure_ (i := 11) (N := some 30) (v := ?_) (a' := ?_) #[true, true, false, true, false, false, true, true, true, true, true, true, true, true, true, false, false] rfl rfl (any_of HT_.out (by kernel_rfl)) (fun _ _ _ h => h) (Or.inl ⟨by rfl, ?_⟩) ?_ ?_
  rotate_left
  ·intro w'
   go_simp
   with_reducible rfl
  rotate_left
  ·simp only [Act.put, List.setIfInBounds_toArray, List.set_cons_zero, List.set_cons_succ, i64_w, i32_w]
   rfl
  refine pure_ (i := 15) (N := some 34) (v := ?_) (a' := ?_) #[true, true, false, true, false, false, true, true, true, true, true, true, true, true, true, true, false] rfl rfl (any_of HT_.out (by kernel_rfl)) (fun _ _ _ h => h) (Or.inl ⟨by rfl, ?_⟩) ?_ ?_
  rotate_left
  ·intro w'
   go_simp
   with_reducible rfl
  rotate_left
  ·simp only [Act.put, List.setIfInBounds_toArray, List.set_cons_zero, List.set_cons_succ, i64_w, i32_w]
   rfl
  refine join_ (σ := Value × Value) 2 #[true, true, true, true, true, false, true, true, true, true, true, true, true, true, true, true, false] (fun s_ => [(21, s_.1), (23, s_.2)]) (fun s_ w' => (w'.cell? ⟨gg, 0, none⟩ = some (.func (.func 43) #[] #[.pointer (some ⟨ge, 0, none⟩), .pointer (some ⟨gg, 0, none⟩), .pointer (some ⟨gt, 0, none⟩)]) ∧ w'.cell? ⟨gt, 0, none⟩ = some (.slice (some at_) t.length ct) ∧ w'.cell? (at_.add a.toNat) = some (.int .u16 (rd t a))) ∧ Kd.R (Kd.int .i64) 3 w' wd.heap.size (fun _ => True) s_.1 u ∧ Kd.R (Kd.int .i64) 3 w' wd.heap.size (fun _ => True) s_.2 z1 ∧ Below wd.heap.size wd w') ?_ ?_
  rotate_left
  ·intro hCont
   refine two_ (i := 2) (j := 4) (Ni := some 21) (Nj := some 23) #[true, true, true, true, false, false, true, true, true, true, true, true, true, true, true, true, false] #[true, true, false, true, true, false, true, true, true, true, true, true, true, true, true, true, false] rfl rfl rfl rfl (two_of HT_.out (by kernel_rfl)) (by decide) (by decide) (fun K hK => ?_) (fun K hK => ?_)
   ·skip
    refine goes_ Tryd.func45 (by kernel_rfl) rfl #[.slice A o.length c] (by rfl) rfl rfl (by (try simp only [List.map_toArray, List.map_cons, List.map_nil]); first | done | rfl) ?_
    with_reducible refine (slices_Clone_int_int.calls A c o u _ ?k1 HCX.out A2.out).mono ?_
    (case k1 => exact (Kd.R_reads' (Kd.R_below HXd.out HBd.out)).2.2)
    rintro e_ w3 ⟨v21, rfl, ho0, hb⟩
    refine ⟨_, rfl, ?_⟩
    have HC3 := Aside0.mk (show Kd.R (Kd.int .i64) 3 w3 wd.heap.size (fun _ => True) v21 u from Kd.R_lower ho0 HBd.out.size)
    have HB3 := Aside0.mk (below_step HBd.out hb)
    have IQ := Aside0.mk (impl_groups.Inv.below HIK.out ID.out HB3.out)
    clear ho0 hb
    refine hK.out _ _ ⟨(blk_cell IQ.out.bg 0).trans rfl, (blk_cell IQ.out.bt 0).trans rfl, impl_groups.cell IQ.out.ht (of_eq_true p1) (of_eq_true p2)⟩ (fun hHeld => ?_)
    clear IQ
    clear hK K
    refine norm_ (a' := ?_) ?_ ?_
    rotate_left
    ·show Act.put _ (some 21) _ = _
     simp only [Act.put, List.setIfInBounds_toArray, List.set_cons_zero, List.set_cons_succ, i64_w, i32_w]
     rfl
    refine one_ (i := 4) (N := some 23) #[true, true, true, true, true, false, true, true, true, true, true, true, true, true, true, true, false] rfl rfl (one_of HT_.out (by kernel_rfl)) (by decide) (fun K hK => ?_)
    refine Kd.R_lit_step (Kd.int .i64) _ 3 ?hg (N := 23) ?hd (xs := ([a] : List Int)) (inner := [.int .i64 a]) (ok := fun _ => True) (okp := fun _ => True) ?hr ?hp (fun _ hk => hk) trivial (Below.refl _ _) (Nat.le_refl _) (by simp) ?_
    (case hd => rfl)
    (case hg => rfl)
    (case hr => first | (go_simp; done) | (go_simp; rfl))
    (case hp => exact (Reps.one (show Kd.M (Kd.int .i64) _ _ _ a [.int .i64 a] from rfl) (Reps.none _ _)))
    intro v23 w4 ho hb hg_ hnew_
    clear hg_ hnew_
    rw [← NZ.out] at ho
    have HZ4 := Aside0.mk (show Kd.R (Kd.int .i64) 3 w4 wd.heap.size (fun _ => True) v23 z1 from Kd.R_lower ho HB3.out.size)
    have HC4 := Aside0.mk (show Kd.R (Kd.int .i64) 3 w4 wd.heap.size (fun _ => True) v21 u from Kd.R_below HC3.out hb)
    have HB4 := Aside0.mk (below_step HB3.out hb)
    have IQ := Aside0.mk (impl_groups.Inv.below HIK.out ID.out HB4.out)
    clear ho hb
    refine hK.out _ _ ⟨(blk_cell IQ.out.bg 0).trans rfl, (blk_cell IQ.out.bt 0).trans rfl, impl_groups.cell IQ.out.ht (of_eq_true p1) (of_eq_true p2)⟩ (fun hHeld => ?_)
    clear IQ
    clear hK K
    refine norm_ (a' := ?_) ?_ ?_
    rotate_left
    ·show Act.put _ (some 23) _ = _
     simp only [Act.put, List.setIfInBounds_toArray, List.set_cons_zero, List.set_cons_succ, i64_w, i32_w]
     rfl
    exact norm_ (by simp only [putAll, Act.put, List.setIfInBounds_toArray, List.set_cons_zero, List.set_cons_succ]) (hCont (v21, v23) _ ⟨hHeld, HC4.out, HZ4.out, HB4.out⟩)
   ·skip
    refine Kd.R_lit_step (Kd.int .i64) _ 3 ?hg (N := 23) ?hd (xs := ([a] : List Int)) (inner := [.int .i64 a]) (ok := fun _ => True) (okp := fun _ => True) ?hr ?hp (fun _ hk => hk) trivial (Below.refl _ _) (Nat.le_refl _) (by simp) ?_
    (case hd => rfl)
    (case hg => rfl)
    (case hr => first | (go_simp; done) | (go_simp; rfl))
    (case hp => exact (Reps.one (show Kd.M (Kd.int .i64) _ _ _ a [.int .i64 a] from rfl) (Reps.none _ _)))
    intro v23 w3 ho hb hg_ hnew_
    clear hg_ hnew_
    rw [← NZ.out] at ho
    have HZ3 := Aside0.mk (show Kd.R (Kd.int .i64) 3 w3 wd.heap.size (fun _ => True) v23 z1 from Kd.R_lower ho HBd.out.size)
    have HB3 := Aside0.mk (below_step HBd.out hb)
    have IQ := Aside0.mk (impl_groups.Inv.below HIK.out ID.out HB3.out)
    clear ho hb
    refine hK.out _ _ ⟨(blk_cell IQ.out.bg 0).trans rfl, (blk_cell IQ.out.bt 0).trans rfl, impl_groups.cell IQ.out.ht (of_eq_true p1) (of_eq_true p2)⟩ (fun hHeld => ?_)
    clear IQ
    clear hK K
    refine norm_ (a' := ?_) ?_ ?_
    rotate_left
    ·show Act.put _ (some 23) _ = _
     simp only [Act.put, List.setIfInBounds_toArray, List.set_cons_zero, List.set_cons_succ, i64_w, i32_w]
     rfl
    refine one_ (i := 2) (N := some 21) #[true, true, true, true, true, false, true, true, true, true, true, true, true, true, true, true, false] rfl rfl (one_of HT_.out (by kernel_rfl)) (by decide) (fun K hK => ?_)
    refine goes_ Tryd.func45 (by kernel_rfl) rfl #[.slice A o.length c] (by rfl) rfl rfl (by (try simp only [List.map_toArray, List.map_cons, List.map_nil]); first | done | rfl) ?_
    with_reducible refine (slices_Clone_int_int.calls A c o u _ ?k1 HCX.out A2.out).mono ?_
    (case k1 => exact (Kd.R_reads' (Kd.R_below HXd.out HB3.out)).2.2)
    rintro e_ w4 ⟨v21, rfl, ho0, hb⟩
    refine ⟨_, rfl, ?_⟩
    have HC4 := Aside0.mk (show Kd.R (Kd.int .i64) 3 w4 wd.heap.size (fun _ => True) v21 u from Kd.R_lower ho0 HB3.out.size)
    have HZ4 := Aside0.mk (show Kd.R (Kd.int .i64) 3 w4 wd.heap.size (fun _ => True) v23 z1 from Kd.R_below HZ3.out hb)
    have HB4 := Aside0.mk (below_step HB3.out hb)
    have IQ := Aside0.mk (impl_groups.Inv.below HIK.out ID.out HB4.out)
    clear ho0 hb
    refine hK.out _ _ ⟨(blk_cell IQ.out.bg 0).trans rfl, (blk_cell IQ.out.bt 0).trans rfl, impl_groups.cell IQ.out.ht (of_eq_true p1) (of_eq_true p2)⟩ (fun hHeld => ?_)
    clear IQ
    clear hK K
    refine norm_ (a' := ?_) ?_ ?_
    rotate_left
    ·show Act.put _ (some 21) _ = _
     simp only [Act.put, List.setIfInBounds_toArray, List.set_cons_zero, List.set_cons_succ, i64_w, i32_w]
     rfl
    exact norm_ (by simp only [putAll, Act.put, List.setIfInBounds_toArray, List.set_cons_zero, List.set_cons_succ]) (hCont (v21, v23) _ ⟨hHeld, HC4.out, HZ4.out, HB4.out⟩)
  rintro ⟨v21, v23⟩ w5 ⟨hS_, h0_, h1_, h2_⟩
  have HC5 : Aside0 (Kd.R (Kd.int .i64) 3 w5 wd.heap.size (fun _ => True) v21 u) := ⟨h0_⟩
  have HZ5 : Aside0 (Kd.R (Kd.int .i64) 3 w5 wd.heap.size (fun _ => True) v23 z1) := ⟨h1_⟩
  have HB5 : Aside0 (Below wd.heap.size wd w5) := ⟨h2_⟩
  clear h0_ h1_ h2_ hHeld HBd
  have hHeld := hS_
  clear hS_
  obtain ⟨Az, cz, ez_⟩ := Kd.R_slice HZ5.out
  subst ez_
  refine norm_ (a' := ?_) ?_ ?_
  rotate_left
  ·simp only [putAll, Act.put, List.setIfInBounds_toArray, List.set_cons_zero, List.set_cons_succ]
   rfl
  refine one_ (i := 5) (N := some 24) #[true, true, true, true, true, true, true, true, true, true, true, true, true, true, true, true, false] rfl rfl (one_of HT_.out (by kernel_rfl)) (by decide) (fun K hK => ?_)
  refine Kd.R_append_rows_step (Kd.int .i64) (w0 := wd) wd.heap.size (by rfl) (.tmp 21) (.tmp 23) 22 3 (.int .i64 0) 8 rfl Tryd.underlying22 info3 rfl (by decide) (by omega) v21 u z1 _ _ _ (fun _ => True) (fun _ => False) rfl rfl ?aO ?aR (fun _ _ h => h) (fun _ h => h.elim) ?aF ?aB ?aS ?aL ?_
  (case aR => exact (Kd.R_reads' HZ5.out).2.2)
  (case aB => exact HB5.out)
  (case aF => exact (fun _ _ => trivial))
  (case aO => exact HC5.out)
  (case aS => exact HB5.out.size)
  (case aL => have := HL.out; have := NZ1.out; omega)
  intro v3 w6 ho hb hg hat
  rw [← NY.out] at ho
  have HB6 := Aside0.mk hb
  have I6 := Aside0.mk (impl_groups.Inv.below HIK.out ID.out hb)
  have HX6 := Aside0.mk (Kd.R_below HXd.out hb)
  have HL6 := Aside0.mk (Kd.R_below HLd.out hb)
  have HK6 := Aside0.mk (Kept.below HKd.out hb)
  have HY6 := Aside0.mk (show Kd.R (Kd.int .i64) 3 w6 w0.heap.size (fun k_ => ¬ Sg k_) v3 y from Kd.R_lower (Kd.R_mono (ok' := fun k_ => ¬ Sg k_) (Kd.R_bound ho) (fun k_ hk_ hs_ => Nat.lt_irrefl _ (Nat.lt_of_lt_of_le (HSL.out _ _ ID.out.st _ hs_) hk_.2.1))) ID.out.hb.size)
  obtain ⟨A3, c3, e3_⟩ := Kd.R_slice HY6.out
  subst e3_
  clear ho hb hg hat HC5 HZ5 HB5 HXd HLd HKd ID
  refine hK.out _ _ ⟨(blk_cell I6.out.bg 0).trans rfl, (blk_cell I6.out.bt 0).trans rfl, impl_groups.cell I6.out.ht (of_eq_true p1) (of_eq_true p2)⟩ (fun hHeld => ?_)
  clear hK K
  refine norm_ (a' := ?_) ?_ ?_
  rotate_left
  ·show Act.put _ (some 24) _ = _
   simp only [Act.put, List.setIfInBounds_toArray, List.set_cons_zero, List.set_cons_succ, i64_w, i32_w]
   rfl
  refine one_ (i := 16) (N := some 35) #[true, true, true, true, true, true, true, true, true, true, true, true, true, true, true, true, true] rfl rfl (one_of HT_.out (by kernel_rfl)) (by decide) (fun K hK => ?_)
  refine impl_groups.goesV_ Tryd.func43 (by kernel_rfl) rfl #[.slice A3 y.length c3, .int .u16 (Go.bits .andNot .u16 (Go.bits .and .u16 left (rd t a)) (IntKind.u16.wrap (j - 1))), .pointer (some ⟨ge, 0, none⟩), .pointer (some ⟨gg, 0, none⟩), .pointer (some ⟨gt, 0, none⟩)] (by rfl) rfl rfl rfl (by simp [Act.eval]) ?_
  refine (IH.out k2 (by have := HKk.out; omega) (some at_) ct t A3 c3 y (Go.bits .andNot .u16 (Go.bits .and .u16 left (rd t a)) (IntKind.u16.wrap (j - 1))) s s2 _ I6.out HY6.out HYL.out A4.out).mono ?_
  rintro e_ w7 ⟨rfl, hi7, hk7⟩
  refine ⟨_, rfl, ?_⟩
  have I7 := Aside0.mk hi7
  have HX7 := Aside0.mk (Kd.R_kept HX6.out hk7 (fun _ h_ => h_))
  have HL7 := Aside0.mk (Kd.R_kept HL6.out hk7 (fun _ h_ => h_))
  have HK7 := Aside0.mk (Kept.then_ HK6.out hk7 (fun _ h_ => .inl h_))
  clear hi7 hk7
  refine hK.out _ _ ⟨(blk_cell I7.out.bg 0).trans rfl, (blk_cell I7.out.bt 0).trans rfl, impl_groups.cell I7.out.ht (of_eq_true p1) (of_eq_true p2)⟩ (fun hHeld => ?_)
  clear hK K
  refine norm_ (a' := ?_) ?_ ?_
  rotate_left
  ·show Act.put _ (some 35) _ = _
   simp only [Act.put, List.setIfInBounds_toArray, List.set_cons_zero, List.set_cons_succ, i64_w, i32_w]
   rfl
  refine done_ (done_of HT_.out (by kernel_rfl)) ?_
  clear hHeld HT_ HW_
  go_wp2
  go_roundg k2
  case measure => have := HKk.out; omega
  case rel => exact ⟨wrap64 (i + 1), s2, (by first | rfl | (simp; done) | (simp [*]; done)), H', ⟨by have := HKk.out; omega⟩, ⟨(impl_groups.Inv.below HIK.out I7.out (by repeat (first | exact Below.refl _ _ | apply below_alloc | apply pw_below_drewN | apply below_drew1)))⟩, ⟨(by (with_reducible repeat (first | apply Kd.R_alloc | apply Kd.R_drewN | apply Kd.R_drew)); exact HX7.out)⟩, ⟨(by (with_reducible repeat (first | apply Kd.R_alloc | apply Kd.R_drewN | apply Kd.R_drew)); exact HL7.out)⟩, ⟨(by (with_reducible repeat (first | refine Kept.alloc ?_ _ | refine Kept.drewN ?_ _ | refine Kept.drew ?_)); exact HK7.out)⟩⟩
def impl_groups.f {σ : Type} (e : σ → List Int → σ) (k : Nat) (t : List Int) (s : σ) : Option σ := impl_groups.g e k t [] (IntKind.u16.wrap (shl .u16 1 (t.length : Int) - 1)) s
theorem impl_groups.monof {σ : Type} (e : σ → List Int → σ) : ∀ t s k, LeO (impl_groups.f e k t s) (impl_groups.f e (k + 1) t s) := fun _ _ _ => (impl_groups.mono_l e _).1 _ _ _ _
theorem impl_groups.three {w w3 w8 : World} {n : Nat} (hn : n = w.heap.size) (h : Below n w w3) (h2 : Below w3.heap.size w3 w8) : Below n w w8 := by subst hn; exact below_step h h2
set_option maxHeartbeats 16000000 in
set_option maxRecDepth 100000 in
theorem impl_groups.calls {σ : Type} (St : σ → World → Prop) (Sg : Nat → Prop) (e : σ → List Int → σ) (g : FuncId) (fn : Func) (lb : Array Value) (w0 : World) (hfn : Tryd.prog.funcs[g]? = some fn) (hnm : (fn.name == "runtime.NumGoroutine") = false) (hbd : fn.body.isSome = true) (hTb : Tab w0)
  (hik : ∀ s W W', St s W → Below W.heap.size W W' → St s W') (hsl : ∀ s W, St s W → ∀ k_, Sg k_ → k_ < W.heap.size)
  (hE : ∀ (W : World) (A : Option Addr) (c : Nat) (o : List Int) (s : σ), St s W → Below w0.heap.size w0 W → Kd.R (Kd.int .i64) 3 W w0.heap.size (fun k_ => ¬ Sg k_) (.slice A o.length c) o → o.length ≤ 17592186044416 → Calls Tryd.prog g (#[.slice A o.length c] ++ lb) W fun e' w' => e' = .returned (.tuple #[]) ∧ St (e s o) w' ∧ Below w0.heap.size w0 w' ∧ Kept W w' Sg) :
  ∀ (k : Nat) (At : Option Addr) (ct : Nat) (t : List Int) (s r : σ) (w : World), Below w0.heap.size w0 w → Kd.R (Kd.int .u16) 57 w w0.heap.size (fun k_ => ¬ Sg k_) (.slice At t.length ct) t → St s w → impl_groups.f e k t s = some r →
  Calls Tryd.prog 35 #[.slice At t.length ct, .func (.func g) #[] lb] w fun e' w' => e' = .returned (.tuple #[]) ∧ St r w' ∧ Below w0.heap.size w0 w' ∧ Kept w w' Sg := by
 have HFN := Aside0.mk hfn
 have HNM := Aside0.mk hnm
 have HBD := Aside0.mk hbd
 have HTB := Aside0.mk hTb
 have HIK := Aside0.mk hik
 have HSL := Aside0.mk hsl
 have HE := Aside0.mk hE
 clear hfn hnm hbd hTb hik hsl hE
 intro k At ct t s r w hB ht hst h
 have HW0 := Aside0.mk hB
 have HT := Aside0.mk ht
 have HST := Aside0.mk hst
 have HB0 := Aside0.mk (Below.refl w.heap.size w)
 clear hB ht hst
 unfold impl_groups.f at h
 obtain ⟨j, hj⟩ : ∃ j_ : Int, (shl .u16 1 (t.length : Int)) = j_ := ⟨_, rfl⟩
 rw [hj] at h
 have hj_ : (IntKind.u16.wrap (1 * 2 ^ min (t.length : Int).toNat 16)) = j := hj
 have hjn : (IntKind.u16.wrap (1 * 2 ^ min t.length 16)) = j := hj
 have hju : (IntKind.u16.wrap (2 ^ min t.length 16)) = j := by have h_ := hjn; rw [Int.one_mul] at h_; exact h_
 have p0 : (0 ≤ (t.length : Int)) = True := eq_true (Int.natCast_nonneg _)
 obtain ⟨z0, hz0⟩ : ∃ z_ : List Int, z_ = [] := ⟨_, rfl⟩
 rw [← hz0] at h
 have NZ := Aside0.mk hz0
 have A4 := Aside0.mk h
 clear hz0 h
 go_enter Tryd.func35, Tryd.ntmps35
 go_wp2_with (first | ((with_reducible refine gate_dst (N := 2) rfl ?_); refine box_event ?hg (N := 2) ?hd (cs := #[.slice At t.length ct]) (t := 50) ?hr ?_; (case hd => rfl); (case hg => rfl); (case hr => first | (go_simp; done) | (go_simp; rfl)); intro gt hg w1 hbox hb; have GT := Aside0.mk (show w.heap.size ≤ gt from by rw [hg]; exact below_size (by repeat (first | (with_reducible first | exact HB0.out | apply below_alloc | apply pw_below_drewN | apply below_drew1) | exact HB0.out))); have BT1 := Aside0.mk (hbox); have HB1 := Aside0.mk ((below_step (by repeat (first | (with_reducible first | exact HB0.out | apply below_alloc | apply pw_below_drewN | apply below_drew1) | exact HB0.out)) hb : Below w.heap.size w w1)); clear hb hbox hg) | ((with_reducible refine gate_dst (N := 3) rfl ?_); refine box_event ?hg (N := 3) ?hd (cs := #[.func (.func g) #[] lb]) (t := 42) ?hr ?_; (case hd => rfl); (case hg => rfl); (case hr => first | (go_simp; done) | (go_simp; rfl)); intro ge hg w2 hbox hb; have GE := Aside0.mk (show w.heap.size ≤ ge from by rw [hg]; exact below_size (by repeat (first | (with_reducible first | exact HB1.out | apply below_alloc | apply pw_below_drewN | apply below_drew1) | exact HB1.out))); have BT2 := Aside0.mk (blk_below (g := gt) (o := (.cells #[.slice At t.length ct] 50 (0, 0))) (by (with_reducible repeat (first | refine blk_drewN ?_ _ | refine blk_drew ?_ | refine blk_alloc ?_ _)); exact BT1.out) hb); have BE2 := Aside0.mk (hbox); have HB2 := Aside0.mk ((below_step (by repeat (first | (with_reducible first | exact HB1.out | apply below_alloc | apply pw_below_drewN | apply below_drew1) | exact HB1.out)) hb : Below w.heap.size w w2)); clear hb hbox hg) | ((with_reducible refine gate_dst (N := 4) rfl ?_); refine box_event ?hg (N := 4) ?hd (cs := #[.nilFunc]) (t := 56) ?hr ?_; (case hd => rfl); (case hg => rfl); (case hr => first | (go_simp; done) | (go_simp; rfl)); intro gg hg w3 hbox hb; have GG := Aside0.mk (show w.heap.size ≤ gg from by rw [hg]; exact below_size (by repeat (first | (with_reducible first | exact HB2.out | apply below_alloc | apply pw_below_drewN | apply below_drew1) | exact HB2.out))); have NTG := Aside0.mk (show gt ≠ gg from by rw [hg]; exact Nat.ne_of_lt (blk_lt (by (with_reducible repeat (first | refine blk_drewN ?_ _ | refine blk_drew ?_ | refine blk_alloc ?_ _)); exact BT2.out))); have NEG := Aside0.mk (show ge ≠ gg from by rw [hg]; exact Nat.ne_of_lt (blk_lt (by (with_reducible repeat (first | refine blk_drewN ?_ _ | refine blk_drew ?_ | refine blk_alloc ?_ _)); exact BE2.out))); have BT3 := Aside0.mk (blk_below (g := gt) (o := (.cells #[.slice At t.length ct] 50 (0, 0))) (by (with_reducible repeat (first | refine blk_drewN ?_ _ | refine blk_drew ?_ | refine blk_alloc ?_ _)); exact BT2.out) hb); have BE3 := Aside0.mk (blk_below (g := ge) (o := (.cells #[.func (.func g) #[] lb] 42 (0, 0))) (by (with_reducible repeat (first | refine blk_drewN ?_ _ | refine blk_drew ?_ | refine blk_alloc ?_ _)); exact BE2.out) hb); have BG3 := Aside0.mk (hbox); have HB3 := Aside0.mk ((below_step (by repeat (first | (with_reducible first | exact HB2.out | apply below_alloc | apply pw_below_drewN | apply below_drew1) | exact HB2.out)) hb : Below w.heap.size w w3)); have hzg : w3.cell? ⟨gg, 0, none⟩ = some (.nilFunc) := (blk_cell hbox 0).trans rfl; clear hb hbox hg) | (refine store_event (t := 56) (p := 4) (v := ?vn0_) (w1 := ?wn0_) ?hg ?ho ?hn ?hr ?_; (case ho => rfl); (case hg => rfl); (case hn => rfl); (case hr => have hf_ := blk_frozen BG3.out 0; first | (go_simp; done) | (go_simp; rfl)); intro w4 hw; have KS4 := Aside0.mk (by rw [hw]; (with_reducible repeat (first | refine Kept.alloc ?_ _ | refine Kept.drewN ?_ _ | refine Kept.drew ?_)); exact Kept.setCell (by (with_reducible repeat (first | refine Kept.alloc ?_ _ | refine Kept.drewN ?_ _ | refine Kept.drew ?_)); exact Kept.refl _ _) (.inl (by rfl)) _ : Kept w3 w4 (fun k_ => k_ = gg)); have HB4 := Aside0.mk (by rw [hw]; (with_reducible repeat (first | apply below_drew1 | apply pw_below_drewN)); exact below_set (by repeat (first | (with_reducible first | exact HB3.out | apply below_alloc | apply pw_below_drewN | apply below_drew1) | exact HB3.out)) GG.out : Below w.heap.size w w4); have BG4 := Aside0.mk (by rw [hw]; (with_reducible repeat (first | refine blk_drewN ?_ _ | refine blk_drew ?_ | refine blk_alloc ?_ _)); exact blk_put (by (with_reducible repeat (first | refine blk_drewN ?_ _ | refine blk_drew ?_ | refine blk_alloc ?_ _)); exact BG3.out) 0 _ rfl : w4.heap[gg]? = some (.cells #[.func (.func 43) #[] #[.pointer (some ⟨ge, 0, none⟩), .pointer (some ⟨gg, 0, none⟩), .pointer (some ⟨gt, 0, none⟩)]] 56 (0, 0))); clear hzg; have I4 := Aside0.mk ((show impl_groups.Inv St Sg ge gg gt At ct t (.func (.func g) #[] lb) w0 w4 s from ⟨blk_kept BE3.out KS4.out (fun e_ => NEG.out e_), BG4.out, blk_kept BT3.out KS4.out (fun e_ => NTG.out e_), Kd.R_below HT.out HB4.out, HIK.out s _ _ HST.out HB4.out, below_step HW0.out HB4.out⟩)); clear KS4 BG4 BE3 BT3 BG3 HB3; clear hw))
 refine start_ (n := 7) (S := fun w' => w'.cell? ⟨gg, 0, none⟩ = some (.func (.func 43) #[] #[.pointer (some ⟨ge, 0, none⟩), .pointer (some ⟨gg, 0, none⟩), .pointer (some ⟨gt, 0, none⟩)]) ∧ w'.cell? ⟨gt, 0, none⟩ = some (.slice At t.length ct)) (ds := []) #[false, false, false, false, false, false, false] (by kernel_rfl) rfl rfl ⟨(blk_cell (blk_drew I4.out.bg) 0).trans rfl, (blk_cell (blk_drew I4.out.bt) 0).trans rfl⟩ (fun hHeld => ?_)
 refine with_tabW impl_groups.tab3 impl_groups.bits3 (fun HT_ HW_ => ?_)
 have ID := Aside0.mk (impl_groups.Inv.below HIK.out I4.out (below_drew1 (Below.refl _ _)))
 have HB5 := Aside0.mk (below_drew1 HB4.out)
 clear I4 HB4
 generalize w4.drew = wd at hHeld ID HB5 ⊢
 refine take_ (i := 0) (N := some 6) (v := ?_) (a' := ?_) #[true, false, false, false, false, false, false] rfl rfl (take_ofW HT_.out HW_.out (by kernel_rfl)) (fun _ _ _ h => h) (Or.inl ⟨by rfl, ?_⟩) hHeld ?_ ?_
 rotate_left
 ·rintro w' ⟨s0_, s1_⟩
  go_simp
  with_reducible rfl
 rotate_left
 ·simp only [Act.put, List.setIfInBounds_toArray, List.set_cons_zero, List.set_cons_succ, i64_w, i32_w]
  rfl
 refine take_ (i := 2) (N := some 8) (v := ?_) (a' := ?_) #[true, false, true, false, false, false, false] rfl rfl (take_ofW HT_.out HW_.out (by kernel_rfl)) (fun _ _ _ h => h) (Or.inl ⟨by rfl, ?_⟩) hHeld ?_ ?_
 rotate_left
 ·rintro w' ⟨s0_, s1_⟩
  go_simp
  with_reducible rfl
 rotate_left
 ·simp only [Act.put, List.setIfInBounds_toArray, List.set_cons_zero, List.set_cons_succ, i64_w, i32_w]
  rfl
 refine pure_ (i := 3) (N := some 9) (v := ?_) (a' := ?_) #[true, false, true, true, false, false, false] rfl rfl (any_of HT_.out (by kernel_rfl)) (fun _ _ _ h => h) (Or.inl ⟨by rfl, ?_⟩) ?_ ?_
 rotate_left
 ·intro w'
  go_simp
  with_reducible rfl
 rotate_left
 ·simp only [Act.put, List.setIfInBounds_toArray, List.set_cons_zero, List.set_cons_succ, i64_w, i32_w]
  rfl
 refine pure_ (i := 4) (N := some 10) (v := ?_) (a' := ?_) #[true, false, true, true, true, false, false] rfl rfl (any_of HT_.out (by kernel_rfl)) (fun _ _ _ h => h) (Or.inl ⟨by rfl, ?_⟩) ?_ ?_
 rotate_left
 ·intro w'
  go_simp
  with_reducible rfl
 rotate_left
 ·simp only [Act.put, List.setIfInBounds_toArray, List.set_cons_zero, List.set_cons_succ, i64_w, i32_w]
  rfl
 refine pure_ (i := 5) (N := some 11) (v := ?_) (a' := ?_) #[true, false, true, true, true, true, false] rfl rfl (any_of HT_.out (by kernel_rfl)) (fun _ _ _ h => h) (Or.inl ⟨by rfl, ?_⟩) ?_ ?_
 rotate_left
 ·intro w'
  go_simp
  with_reducible rfl
 rotate_left
 ·simp only [Act.put, List.setIfInBounds_toArray, List.set_cons_zero, List.set_cons_succ, i64_w, i32_w]
  rfl
 refine one_ (i := 1) (N := some 7) #[true, true, true, true, true, true, false] rfl rfl (one_of HT_.out (by kernel_rfl)) (by decide) (fun K hK => ?_)
 refine Kd.R_lit_step (Kd.int .i64) _ 3 ?hg (N := 7) ?hd (xs := ([] : List Int)) (inner := []) (ok := fun _ => True) (okp := fun _ => True) ?hr ?hp (fun _ hk => hk) trivial (Below.refl _ _) (Nat.le_refl _) (by simp) ?_
 (case hd => rfl)
 (case hg => rfl)
 (case hr => first | (go_simp; done) | (go_simp; rfl))
 (case hp => exact (Reps.none _ _))
 intro v7 w6 ho hb hg_ hnew_
 clear hg_ hnew_
 rw [← NZ.out] at ho
 have I6 := Aside0.mk (impl_groups.Inv.below HIK.out ID.out hb)
 have HB6 := Aside0.mk (below_step HB5.out hb)
 have HZ6 := Aside0.mk (show Kd.R (Kd.int .i64) 3 w6 w0.heap.size (fun k_ => ¬ Sg k_) v7 z0 from Kd.R_lower (Kd.R_mono (ok' := fun k_ => ¬ Sg k_) (Kd.R_bound ho) (fun k_ hk_ hs_ => Nat.lt_irrefl _ (Nat.lt_of_lt_of_le (HSL.out _ _ ID.out.st _ hs_) hk_.2.1))) ID.out.hb.size)
 obtain ⟨Az, cz, ez_⟩ := Kd.R_slice HZ6.out
 subst ez_
 clear ho hb
 refine hK.out _ _ ⟨(blk_cell I6.out.bg 0).trans rfl, (blk_cell I6.out.bt 0).trans rfl⟩ (fun hHeld => ?_)
 clear hK K
 refine norm_ (a' := ?_) ?_ ?_
 rotate_left
 ·show Act.put _ (some 7) _ = _
  simp only [Act.put, List.setIfInBounds_toArray, List.set_cons_zero, List.set_cons_succ, i64_w, i32_w]
  rfl
 refine one_ (i := 6) (N := some 12) #[true, true, true, true, true, true, true] rfl rfl (one_of HT_.out (by kernel_rfl)) (by decide) (fun K hK => ?_)
 refine impl_groups.goesV_ Tryd.func43 (by kernel_rfl) rfl #[.slice Az z0.length cz, .int .u16 (IntKind.u16.wrap (j - 1)), .pointer (some ⟨ge, 0, none⟩), .pointer (some ⟨gg, 0, none⟩), .pointer (some ⟨gt, 0, none⟩)] (by rfl) rfl rfl rfl (by simp [Act.eval]) ?_
 refine (impl_groups.grow St Sg e g fn lb ge gg gt w0 HFN.out HNM.out HBD.out HTB.out HIK.out HSL.out HE.out ⟨(fun hs_ => Nat.lt_irrefl _ (Nat.lt_of_lt_of_le (HSL.out _ _ HST.out _ hs_) GE.out)), (fun hs_ => Nat.lt_irrefl _ (Nat.lt_of_lt_of_le (HSL.out _ _ HST.out _ hs_) GG.out)), (fun hs_ => Nat.lt_irrefl _ (Nat.lt_of_lt_of_le (HSL.out _ _ HST.out _ hs_) GT.out))⟩ k At ct t Az cz z0 (IntKind.u16.wrap (j - 1)) s r _ I6.out HZ6.out (by rw [NZ.out]; exact Nat.zero_le _) A4.out).mono ?_
 rintro e_ w7 ⟨rfl, hi7, hk7⟩
 refine ⟨_, rfl, ?_⟩
 have I7 := Aside0.mk hi7
 have HK7 := Aside0.mk (Kept.then_ (Kept.of_below HB6.out Sg) hk7 (fun _ h_ => .inl h_))
 clear hi7 hk7
 refine hK.out _ _ ⟨(blk_cell I7.out.bg 0).trans rfl, (blk_cell I7.out.bt 0).trans rfl⟩ (fun hHeld => ?_)
 clear hK K
 refine norm_ (a' := ?_) ?_ ?_
 rotate_left
 ·show Act.put _ (some 12) _ = _
  simp only [Act.put, List.setIfInBounds_toArray, List.set_cons_zero, List.set_cons_succ, i64_w, i32_w]
  rfl
 refine done_ (done_of HT_.out (by kernel_rfl)) ?_
 clear hHeld HT_ HW_
 go_wp2
 first | go_end0 | ((try simp only [Exit.inBlock, Exit.then]); refine bodyPost_ret (results_none rfl _ _ _) rfl ?_)
 exact ⟨rfl, HIK.out _ _ _ I7.out.st (by repeat (first | exact Below.refl _ _ | apply below_alloc | apply pw_below_drewN | apply below_drew1)), below_step I7.out.hb (by repeat (first | exact Below.refl _ _ | apply below_alloc | apply pw_below_drewN | apply below_drew1)), (by (with_reducible repeat (first | refine Kept.alloc ?_ _ | refine Kept.drewN ?_ _ | refine Kept.drew ?_)); exact HK7.out)⟩
def impl_ocg.e {σ : Type} (e : σ → List Int → σ) (s : σ) (o : List Int) : σ := if 1 < o.length then e s o else s
set_option maxHeartbeats 8000000 in
set_option maxRecDepth 100000 in
theorem impl_ocg.each {σ : Type} (St : σ → World → Prop) (Sg : Nat → Prop) (e : σ → List Int → σ) (g : FuncId) (fn : Func) (lb : Array Value) (gp : Nat) (w0 : World) (hfn : Tryd.prog.funcs[g]? = some fn) (hnm : (fn.name == "runtime.NumGoroutine") = false) (hbd : fn.body.isSome = true)
  (hik : ∀ s W W', St s W → Below W.heap.size W W' → St s W') (hsl : ∀ s W, St s W → ∀ k_, Sg k_ → k_ < W.heap.size)
  (hE : ∀ (W : World) (A : Option Addr) (c : Nat) (o : List Int) (s : σ), St s W → Below w0.heap.size w0 W → Kd.R (Kd.int .i64) 3 W w0.heap.size (fun k_ => ¬ Sg k_) (.slice A o.length c) o → o.length ≤ 17592186044416 → Calls Tryd.prog g (#[.slice A o.length c] ++ lb) W fun e' w' => e' = .returned (.tuple #[]) ∧ St (e s o) w' ∧ Below w0.heap.size w0 w' ∧ Kept W w' Sg) (hgp : ¬ Sg gp) (W : World) (A : Option Addr) (c : Nat) (o : List Int) (s : σ) (hst : (St s W ∧ W.heap[gp]? = some (.cells #[.func (.func g) #[] lb] 42 (0, 0)))) (hB : Below w0.heap.size w0 W) (hR : Kd.R (Kd.int .i64) 3 W w0.heap.size (fun k_ => ¬ Sg k_) (.slice A o.length c) o) (hol : o.length ≤ 17592186044416) :
  Calls Tryd.prog 36 (#[.slice A o.length c] ++ #[.pointer (some ⟨gp, 0, none⟩)]) W fun e' w' => e' = .returned (.tuple #[]) ∧ (St (impl_ocg.e e s o) w' ∧ w'.heap[gp]? = some (.cells #[.func (.func g) #[] lb] 42 (0, 0))) ∧ Below w0.heap.size w0 w' ∧ Kept W w' Sg := by
 have e_ : (#[.slice A o.length c] ++ #[.pointer (some ⟨gp, 0, none⟩)] : Array Value) = #[.slice A o.length c, .pointer (some ⟨gp, 0, none⟩)] := by simp
 rw [e_]
 clear e_
 have HFN := Aside0.mk hfn
 have HNM := Aside0.mk hnm
 have HBD := Aside0.mk hbd
 have HIK := Aside0.mk hik
 have HE := Aside0.mk hE
 have HGP := Aside0.mk hgp
 have HB := Aside0.mk hB
 have HR := Aside0.mk hR
 have HOL := Aside0.mk hol
 have HST := Aside0.mk hst.1
 have BP := Aside0.mk hst.2
 clear hfn hnm hbd hik hsl hE hgp hst hB hR hol
 have hzp : W.cell? ⟨gp, 0, none⟩ = some (.func (.func g) #[] lb) := (blk_cell BP.out 0).trans rfl
 have HK := Aside0.mk (Kept.refl W Sg)
 by_cases h0 : 1 < o.length
 ·have h1 : decide ((o.length : Int) > 1) = true := decide_eq_true (by omega)
  have h2 : decide (1 < (o.length : Int)) = true := decide_eq_true (by omega)
  have h3 : decide (1 < o.length) = true := decide_eq_true h0
  have h4 : (1 < o.length) = True := eq_true h0
  have NE := Aside0.mk (show impl_ocg.e e s o = e s o from if_pos h0)
  clear h0
  go_enter Tryd.func36, Tryd.ntmps36
  go_wp2_with (first | ((with_reducible refine gate_dst (N := 8) rfl ?_); refine impl_groups.goesVL_ (some 8) rfl rfl HFN.out HNM.out HBD.out (#[.slice A o.length c] ++ lb) rfl rfl (by simp [Act.eval]) ?_; refine (HE.out _ A c o s HST.out HB.out HR.out HOL.out).mono ?_; rintro e_ w1 ⟨rfl, hst1, hB1, hk1⟩; refine ⟨_, rfl, ?_⟩; have HS1 := Aside0.mk hst1; have HB1 := Aside0.mk hB1; have HK1 := Aside0.mk hk1; have BP1 := Aside0.mk (blk_kept BP.out hk1 HGP.out); clear hst1 hB1 hk1))
  first | go_end0 | ((try simp only [Exit.inBlock, Exit.then]); refine bodyPost_ret (results_none rfl _ _ _) rfl ?_)
  exact ⟨rfl, ⟨by rw [NE.out]; exact HIK.out _ _ _ HS1.out (by repeat (first | exact Below.refl _ _ | apply below_alloc | apply pw_below_drewN | apply below_drew1)), (by (with_reducible repeat (first | refine blk_drewN ?_ _ | refine blk_drew ?_ | refine blk_alloc ?_ _)); exact BP1.out)⟩, by repeat (first | (with_reducible first | exact HB1.out | apply below_alloc | apply pw_below_drewN | apply below_drew1) | exact HB1.out), (by (with_reducible repeat (first | refine Kept.alloc ?_ _ | refine Kept.drewN ?_ _ | refine Kept.drew ?_)); exact HK1.out)⟩
 ·have h1 : decide ((o.length : Int) > 1) = false := decide_eq_false (by omega)
  have h2 : decide (1 < (o.length : Int)) = false := decide_eq_false (by omega)
  have h3 : decide (1 < o.length) = false := decide_eq_false h0
  have h4 : (1 < o.length) = False := eq_false h0
  have NE := Aside0.mk (show impl_ocg.e e s o = s from if_neg h0)
  clear h0
  go_enter Tryd.func36, Tryd.ntmps36
  go_wp2
  first | go_end0 | ((try simp only [Exit.inBlock, Exit.then]); refine bodyPost_ret (results_none rfl _ _ _) rfl ?_)
  exact ⟨rfl, ⟨by rw [NE.out]; exact HIK.out _ _ _ HST.out (by repeat (first | exact Below.refl _ _ | apply below_alloc | apply pw_below_drewN | apply below_drew1)), (by (with_reducible repeat (first | refine blk_drewN ?_ _ | refine blk_drew ?_ | refine blk_alloc ?_ _)); exact BP.out)⟩, by repeat (first | (with_reducible first | exact HB.out | apply below_alloc | apply pw_below_drewN | apply below_drew1) | exact HB.out), (by (with_reducible repeat (first | refine Kept.alloc ?_ _ | refine Kept.drewN ?_ _ | refine Kept.drew ?_)); exact HK.out)⟩
theorem impl_ocg.gr0 {σ : Type} (St : σ → World → Prop) (Sg : Nat → Prop) (e : σ → List Int → σ) (g : FuncId) (fn : Func) (lb : Array Value) (gp : Nat) (w0 : World) (hfn : Tryd.prog.funcs[g]? = some fn) (hnm : (fn.name == "runtime.NumGoroutine") = false) (hbd : fn.body.isSome = true) (hTb : Tab w0)
  (hik : ∀ s W W', St s W → Below W.heap.size W W' → St s W') (hsl : ∀ s W, St s W → ∀ k_, Sg k_ → k_ < W.heap.size)
  (hE : ∀ (W : World) (A : Option Addr) (c : Nat) (o : List Int) (s : σ), St s W → Below w0.heap.size w0 W → Kd.R (Kd.int .i64) 3 W w0.heap.size (fun k_ => ¬ Sg k_) (.slice A o.length c) o → o.length ≤ 17592186044416 → Calls Tryd.prog g (#[.slice A o.length c] ++ lb) W fun e' w' => e' = .returned (.tuple #[]) ∧ St (e s o) w' ∧ Below w0.heap.size w0 w' ∧ Kept W w' Sg) (hgp : ¬ Sg gp) (k : Nat) (At : Option Addr) (ct : Nat) (t : List Int) (s r : σ) (W : World) (hB : Below w0.heap.size w0 W) (hT : Kd.R (Kd.int .u16) 57 W w0.heap.size (fun k_ => ¬ Sg k_) (.slice At t.length ct) t) (hst : (St s W ∧ W.heap[gp]? = some (.cells #[.func (.func g) #[] lb] 42 (0, 0)))) (h : impl_groups.f (impl_ocg.e e) k t s = some r) :
  Calls Tryd.prog 35 #[.slice At t.length ct, .func (.func 36) #[] #[.pointer (some ⟨gp, 0, none⟩)]] W fun e' w' => e' = .returned (.tuple #[]) ∧ (St r w' ∧ w'.heap[gp]? = some (.cells #[.func (.func g) #[] lb] 42 (0, 0))) ∧ Below w0.heap.size w0 w' ∧ Kept W w' Sg :=
 impl_groups.calls (fun s_ W_ => (St s_ W_ ∧ W_.heap[gp]? = some (.cells #[.func (.func g) #[] lb] 42 (0, 0)))) Sg (impl_ocg.e e) 36 _ #[.pointer (some ⟨gp, 0, none⟩)] w0 Tryd.func36 (by kernel_rfl) rfl hTb (fun s_ W_ W2_ h_ hb_ => ⟨hik s_ W_ W2_ h_.1 hb_, blk_below (g := gp) (o := (.cells #[.func (.func g) #[] lb] 42 (0, 0))) h_.2 hb_⟩) (fun s_ W_ h_ => hsl s_ W_ h_.1) (impl_ocg.each St Sg e g fn lb gp w0 hfn hnm hbd hik hsl hE hgp) k At ct t s r W hB hT hst h
def impl_ocg.l {σ : Type} (e : σ → List Int → σ) : Nat → Int → Int → List Int → Int → σ → Option σ
 | 0, _, _, _, _, _ => none
 | k + 1, n, m, X, c, s => if c < m then ((impl_Painting_inColour.f k n m X c).bind fun t => (impl_groups.f (impl_ocg.e e) k t s).bind fun s' => impl_ocg.l e k n m X (wrap64 (c + 1)) s') else some s
theorem impl_ocg.mono {σ : Type} (e : σ → List Int → σ) : ∀ k y0 y1 y2 y3 y4, LeO (impl_ocg.l e k y0 y1 y2 y3 y4) (impl_ocg.l e (k + 1) y0 y1 y2 y3 y4)
 | 0 => fun _ _ _ _ _ r h => by simp [impl_ocg.l] at h
 | k + 1 => by
  intro y0 y1 y2 y3 y4
  unfold impl_ocg.l
  exact LeO.ite (LeO.bind (impl_Painting_inColour.mono _ _ _ _ _) (fun _ => LeO.bind (impl_groups.monof _ _ _ _) (fun _ => impl_ocg.mono e k _ _ _ _ _))) (LeO.refl _)
structure impl_ocg.Inv {σ : Type} (St : σ → World → Prop) (Sg : Nat → Prop) (gx gp : Nat) (n m : Int) (AX : Option Addr) (cX : Nat) (X : List Int) (fv : Value) (w0 wI : World) (W : World) (s : σ) : Prop where
 bx : W.heap[gx]? = some (.cells #[.int .i64 n, .int .i64 m, .slice AX X.length cX] 28 (0, 0))
 bp : W.heap[gp]? = some (.cells #[fv] 42 (0, 0))
 st : St s W
 hb : Below w0.heap.size w0 W
 hk : Kept wI W Sg
theorem impl_ocg.Inv.below {σ : Type} {St : σ → World → Prop} {Sg : Nat → Prop} {gx gp : Nat} {n m : Int} {AX : Option Addr} {cX : Nat} {X : List Int} {fv : Value} {w0 wI W W' : World} {s : σ} (hik : ∀ s W W', St s W → Below W.heap.size W W' → St s W') (h : impl_ocg.Inv St Sg gx gp n m AX cX X fv w0 wI W s) (hb : Below W.heap.size W W') : impl_ocg.Inv St Sg gx gp n m AX cX X fv w0 wI W' s :=
 ⟨blk_below h.bx hb, blk_below h.bp hb, hik s W W' h.st hb, below_step h.hb hb, Kept.below h.hk hb⟩
set_option maxHeartbeats 16000000 in
set_option maxRecDepth 100000 in
theorem impl_ocg.calls {σ : Type} (St : σ → World → Prop) (Sg : Nat → Prop) (e : σ → List Int → σ) (g : FuncId) (fn : Func) (lb : Array Value) (w0 : World) (hfn : Tryd.prog.funcs[g]? = some fn) (hnm : (fn.name == "runtime.NumGoroutine") = false) (hbd : fn.body.isSome = true) (hTb : Tab w0)
  (hik : ∀ s W W', St s W → Below W.heap.size W W' → St s W') (hsl : ∀ s W, St s W → ∀ k_, Sg k_ → k_ < W.heap.size)
  (hE : ∀ (W : World) (A : Option Addr) (c : Nat) (o : List Int) (s : σ), St s W → Below w0.heap.size w0 W → Kd.R (Kd.int .i64) 3 W w0.heap.size (fun k_ => ¬ Sg k_) (.slice A o.length c) o → o.length ≤ 17592186044416 → Calls Tryd.prog g (#[.slice A o.length c] ++ lb) W fun e' w' => e' = .returned (.tuple #[]) ∧ St (e s o) w' ∧ Below w0.heap.size w0 w' ∧ Kept W w' Sg) (k : Nat) (n m : Int) (AX : Option Addr) (cX : Nat) (X : List Int) (s r : σ) (w : World) (hB : Below w0.heap.size w0 w) (hC : Kd.C (Kd.int .i64) w0 AX X.length X) (hcX : X.length ≤ cX) (hst : St s w) (h : impl_ocg.l e k n m X 0 s = some r) :
  Calls Tryd.prog 21 #[.agg #[.int .i64 n, .int .i64 m, .slice AX X.length cX], .func (.func g) #[] lb] w fun e' w' => e' = .returned (.tuple #[]) ∧ St r w' ∧ Below w0.heap.size w0 w' ∧ Kept w w' Sg := by
 have huP := Tryd.underlying28
 have HFN := Aside0.mk hfn
 have HNM := Aside0.mk hnm
 have HBD := Aside0.mk hbd
 have HTB := Aside0.mk hTb
 have HIK := Aside0.mk hik
 have HSL := Aside0.mk hsl
 have HE := Aside0.mk hE
 have HW0 := Aside0.mk hB
 have HCW := Aside0.mk hC
 have HCX := Aside0.mk hcX
 have HST := Aside0.mk hst
 have HB0 := Aside0.mk (Below.refl w.heap.size w)
 have H' := Aside0.mk h
 clear hfn hnm hbd hTb hik hsl hE hB hC hcX hst h
 go_enter Tryd.func21, Tryd.ntmps21
 go_wp2_with (first | ((with_reducible refine gate_dst (N := 2) rfl ?_); refine box_event ?hg (N := 2) ?hd (cs := #[.int .i64 n, .int .i64 m, .slice AX X.length cX]) (t := 28) ?hr ?_; (case hd => rfl); (case hg => rfl); (case hr => first | (go_simp; done) | (go_simp; rfl)); intro gx hg w1 hbox hb; have GX := Aside0.mk (show w.heap.size ≤ gx from by rw [hg]; exact below_size (by repeat (first | (with_reducible first | exact HB0.out | apply below_alloc | apply pw_below_drewN | apply below_drew1) | exact HB0.out))); have BX1 := Aside0.mk (hbox); have HB1 := Aside0.mk ((below_step (by repeat (first | (with_reducible first | exact HB0.out | apply below_alloc | apply pw_below_drewN | apply below_drew1) | exact HB0.out)) hb : Below w.heap.size w w1)); have hzx0 : w1.cell? ⟨gx, 0, none⟩ = some (.int .i64 n) := (blk_cell hbox 0).trans rfl; have hzx1 : w1.cell? ⟨gx, 1, none⟩ = some (.int .i64 m) := (blk_cell hbox 1).trans rfl; have hzx2 : w1.cell? ⟨gx, 2, none⟩ = some (.slice AX X.length cX) := (blk_cell hbox 2).trans rfl; clear hb hbox hg) | ((with_reducible refine gate_dst (N := 3) rfl ?_); refine box_event ?hg (N := 3) ?hd (cs := #[.func (.func g) #[] lb]) (t := 42) ?hr ?_; (case hd => rfl); (case hg => rfl); (case hr => first | (go_simp; done) | (go_simp; rfl)); intro gp hg w2 hbox hb; have GP := Aside0.mk (show w.heap.size ≤ gp from by rw [hg]; exact below_size (by repeat (first | (with_reducible first | exact HB1.out | apply below_alloc | apply pw_below_drewN | apply below_drew1) | exact HB1.out))); have NSP := Aside0.mk ((show ¬ Sg gp from (fun hs_ => Nat.lt_irrefl _ (Nat.lt_of_lt_of_le (HSL.out _ _ HST.out _ hs_) GP.out)))); have NSX := Aside0.mk ((show ¬ Sg gx from (fun hs_ => Nat.lt_irrefl _ (Nat.lt_of_lt_of_le (HSL.out _ _ HST.out _ hs_) GX.out)))); clear hzx0 hzx1 hzx2; have BX2 := Aside0.mk (blk_below (g := gx) (o := (.cells #[.int .i64 n, .int .i64 m, .slice AX X.length cX] 28 (0, 0))) (by (with_reducible repeat (first | refine blk_drewN ?_ _ | refine blk_drew ?_ | refine blk_alloc ?_ _)); exact BX1.out) hb); have BP2 := Aside0.mk (hbox); have HB2 := Aside0.mk ((below_step (by repeat (first | (with_reducible first | exact HB1.out | apply below_alloc | apply pw_below_drewN | apply below_drew1) | exact HB1.out)) hb : Below w.heap.size w w2)); have hzx0 : w2.cell? ⟨gx, 0, none⟩ = some (.int .i64 n) := (blk_cell BX2.out 0).trans rfl; have hzx1 : w2.cell? ⟨gx, 1, none⟩ = some (.int .i64 m) := (blk_cell BX2.out 1).trans rfl; have hzx2 : w2.cell? ⟨gx, 2, none⟩ = some (.slice AX X.length cX) := (blk_cell BX2.out 2).trans rfl; have I2 := Aside0.mk ((show impl_ocg.Inv St Sg gx gp n m AX cX X (.func (.func g) #[] lb) w0 w w2 s from ⟨BX2.out, BP2.out, HIK.out s _ _ HST.out HB2.out, below_step HW0.out HB2.out, Kept.of_below HB2.out Sg⟩)); clear hb hbox hg))
 go_loopg [7] k (fun kq v7 w' => ∃ (c : Int) (s' : σ), v7 = .int .i64 c ∧ Aside0 (impl_ocg.l e kq n m X c s' = some r) ∧ Aside0 (kq ≤ k) ∧ Aside0 (impl_ocg.Inv St Sg gx gp n m AX cX X (.func (.func g) #[] lb) w0 w w' s'))
 case atStart => exact ⟨0, s, (by first | rfl | (simp; done) | (simp [*]; done)), H', ⟨Nat.le_refl _⟩, ⟨(impl_ocg.Inv.below HIK.out I2.out (by repeat (first | exact Below.refl _ _ | apply below_alloc | apply pw_below_drewN | apply below_drew1)))⟩⟩
 case round =>
  clear H' hzx0 hzx1 hzx2 I2
  obtain ⟨c, s, rfl, HA, HKk, INV⟩ := hrel
  have H := HA.out
  clear HA
  have hzx0 : wr.cell? ⟨gx, 0, none⟩ = some (.int .i64 n) := (blk_cell INV.out.bx 0).trans rfl
  have hzx1 : wr.cell? ⟨gx, 1, none⟩ = some (.int .i64 m) := (blk_cell INV.out.bx 1).trans rfl
  have hzx2 : wr.cell? ⟨gx, 2, none⟩ = some (.slice AX X.length cX) := (blk_cell INV.out.bx 2).trans rfl
  rcases gk with _ | k2
  ·simp [impl_ocg.l] at H
  simp only [impl_ocg.l] at H
  by_cases q0 : c < m
  rotate_left
  ·rw [if_neg q0] at H
   have q01 : decide (c < m) = false := decide_eq_false q0
   clear q0
   obtain rfl := Option.some.inj H
   go_wp2
   first | go_end0 | ((try simp only [Exit.inBlock, Exit.then]); refine bodyPost_ret (results_none rfl _ _ _) rfl ?_)
   exact ⟨rfl, HIK.out _ _ _ INV.out.st (by repeat (first | exact Below.refl _ _ | apply below_alloc | apply pw_below_drewN | apply below_drew1)), below_step INV.out.hb (by repeat (first | exact Below.refl _ _ | apply below_alloc | apply pw_below_drewN | apply below_drew1)), Kept.below INV.out.hk (by repeat (first | exact Below.refl _ _ | apply below_alloc | apply pw_below_drewN | apply below_drew1))⟩
  rw [if_pos q0] at H
  have q01 : decide (c < m) = true := decide_eq_true q0
  clear q0
  replace H := Option.bind_eq_some_iff.1 H
  obtain ⟨t, ht, H⟩ := H
  have A1 := Aside0.mk ht
  replace H := Option.bind_eq_some_iff.1 H
  obtain ⟨s2, hs2, H⟩ := H
  have A2 := Aside0.mk hs2
  have H' := Aside0.mk H
  clear ht hs2 H
  go_wp2_with (first | (go_at_call 34; (with_reducible refine (impl_Painting_inColour.calls k2 n m AX cX X c t _ ?k1 HCX.out A1.out).mono ?_); (case k1 => exact Kd.C_below HCW.out INV.out.hb); rintro e_ w3 ⟨v12, rfl, ht0, hb⟩; clear hzx0 hzx1 hzx2; have I3 := Aside0.mk (impl_ocg.Inv.below HIK.out INV.out hb); have HT3 := Aside0.mk ((show Kd.R (Kd.int .u16) 57 w3 w0.heap.size (fun k_ => ¬ Sg k_) v12 t from Kd.R_lower (Kd.R_mono (ok' := fun k_ => ¬ Sg k_) (Kd.R_bound ht0) (fun k_ hk_ hs_ => Nat.lt_irrefl _ (Nat.lt_of_lt_of_le (HSL.out _ _ INV.out.st _ hs_) hk_.2.1))) INV.out.hb.size)); obtain ⟨At, ct, et_⟩ := Kd.R_slice HT3.out; subst et_; clear ht0 hb) | (go_at_call 35; (with_reducible refine (impl_ocg.gr0 St Sg e g fn lb gp w0 HFN.out HNM.out HBD.out HTB.out HIK.out HSL.out HE.out NSP.out k2 At ct t s s2 _ I3.out.hb HT3.out ⟨I3.out.st, I3.out.bp⟩ A2.out).mono ?_); rintro e_ w4 ⟨rfl, hst4, hB4, hk4⟩; have I4 := Aside0.mk ((show impl_ocg.Inv St Sg gx gp n m AX cX X (.func (.func g) #[] lb) w0 w w4 s2 from ⟨blk_kept I3.out.bx hk4 NSX.out, hst4.2, hst4.1, hB4, Kept.then_ I3.out.hk hk4 (fun _ h_ => .inl h_)⟩)); clear hst4 hB4 hk4))
  go_roundg k2
  case measure => have := HKk.out; omega
  case rel => exact ⟨wrap64 (c + 1), s2, (by first | rfl | (simp; done) | (simp [*]; done)), H', ⟨by have := HKk.out; omega⟩, ⟨(impl_ocg.Inv.below HIK.out I4.out (by repeat (first | exact Below.refl _ _ | apply below_alloc | apply pw_below_drewN | apply below_drew1)))⟩⟩
/-- Which of two lists comes first. -/
def cmpLL : List Int → List Int → Int
 | [], [] => 0
 | [], _ :: _ => -1
 | _ :: _, [] => 1
 | x :: a, y :: b => if x < y then -1 else if y < x then 1 else cmpLL a b
theorem cmpLL_self : ∀ a, cmpLL a a = 0
 | [] => rfl
 | x :: a => by
  unfold cmpLL
  rw [if_neg (by omega), if_neg (by omega)]
  exact cmpLL_self a
theorem cmpLL_neg : ∀ a b, cmpLL b a = - cmpLL a b
 | [], [] => rfl
 | [], _ :: _ => rfl
 | _ :: _, [] => rfl
 | x :: a, y :: b => by
  unfold cmpLL
  by_cases h1 : x < y
  ·rw [if_pos h1, if_neg (by omega), if_pos h1]; rfl
  ·by_cases h2 : y < x
   ·rw [if_pos h2, if_neg h1, if_pos h2]
   ·rw [if_neg h2, if_neg h1, if_neg h1, if_neg h2]; exact cmpLL_neg a b
theorem cmpLL_zero : ∀ a b, cmpLL a b = 0 → a = b
 | [], [], _ => rfl
 | [], _ :: _, h => by simp [cmpLL] at h
 | _ :: _, [], h => by simp [cmpLL] at h
 | x :: a, y :: b, h => by
  unfold cmpLL at h
  by_cases h1 : x < y
  ·rw [if_pos h1] at h; omega
  ·by_cases h2 : y < x
   ·rw [if_neg h1, if_pos h2] at h; omega
   ·rw [if_neg h1, if_neg h2] at h
    rw [cmpLL_zero a b h, show x = y by omega]
theorem cmpLL_trans : ∀ a b c, cmpLL a b ≤ 0 → cmpLL b c ≤ 0 → cmpLL a c ≤ 0
 | [], _, [], _, _ => by simp [cmpLL]
 | [], _, _ :: _, _, _ => by simp [cmpLL]
 | _ :: _, [], _, h, _ => by simp [cmpLL] at h
 | x :: a, y :: b, [], _, h => by simp [cmpLL] at h
 | x :: a, y :: b, z :: c, h1, h2 => by
  unfold cmpLL at h1 h2 ⊢
  by_cases p1 : x < y
  ·by_cases q1 : y < z
   ·rw [if_pos (by omega)]; omega
   ·by_cases q2 : z < y
    ·rw [if_neg q1, if_pos q2] at h2; omega
    ·rw [if_pos (by omega)]; omega
  ·by_cases p2 : y < x
   ·rw [if_neg p1, if_pos p2] at h1; omega
   ·rw [if_neg p1, if_neg p2] at h1
    by_cases q1 : y < z
    ·rw [if_pos (by omega)]; omega
    ·by_cases q2 : z < y
     ·rw [if_neg q1, if_pos q2] at h2; omega
     ·rw [if_neg q1, if_neg q2] at h2
      rw [if_neg (by omega), if_neg (by omega)]
      exact cmpLL_trans a b c h1 h2
theorem compare_eqLL (x y : Int) : cmp_Compare_int.f x y = some (if x < y then -1 else if y < x then 1 else 0) := by
 have h : ∀ z, cmp_isNaN_int.f z = some false := fun z => by simp [cmp_isNaN_int.f]
 unfold cmp_Compare_int.f
 rw [h, h, Option.bind_some, Option.bind_some, if_neg (by simp), if_neg (by simp)]
 by_cases h1 : x < y
 ·rw [if_pos h1, if_pos h1]
 ·rw [if_neg h1, if_neg h1]
  by_cases h2 : y < x
  ·rw [if_pos h2, if_pos h2]
  ·rw [if_neg (by omega), if_neg h2]
theorem cmpLL_loop (a b : List Int) (ha : a.length ≤ 9223372036854775807) (hb : b.length ≤ 9223372036854775807) : ∀ d i, a.length - i = d → i ≤ a.length → i ≤ b.length → ∃ k, slices_Compare_int_int.l0 k a b a (a.length : Int) (i : Int) = some (cmpLL (a.drop i) (b.drop i)) := by
 intro d
 induction d with
 | zero =>
  intro i hd hi hb2
  obtain rfl : i = a.length := by omega
  refine ⟨1, ?_⟩
  simp only [slices_Compare_int_int.l0]
  rw [if_neg (by omega), List.drop_length]
  by_cases c : a.length < b.length
  ·rw [if_pos (by omega), List.drop_eq_getElem_cons c]; rfl
  ·rw [if_neg (by omega), List.drop_eq_nil_of_le (by omega)]; rfl
 | succ d ih =>
  intro i hd hi hb2
  have hi' : i < a.length := by omega
  by_cases c : i < b.length
  ·obtain ⟨k, hk⟩ := ih (i + 1) (by omega) (by omega) (by omega)
   refine ⟨k + 1, ?_⟩
   simp only [slices_Compare_int_int.l0]
   have e1 : rd a (i : Int) = a[i] := by simp [rd, List.getD, hi']
   have e2 : rd b (i : Int) = b[i] := by simp [rd, List.getD, c]
   rw [if_pos (by omega), if_pos (by omega), if_pos (by omega), if_neg (by omega), if_pos (by omega), e1, e2, compare_eqLL, Option.bind_some, List.drop_eq_getElem_cons hi', List.drop_eq_getElem_cons c]
   unfold cmpLL
   by_cases h1 : a[i] < b[i]
   ·rw [if_pos h1, if_pos h1, if_neg (by omega)]
   ·rw [if_neg h1, if_neg h1]
    by_cases h2 : b[i] < a[i]
    ·rw [if_pos h2, if_pos h2, if_neg (by omega)]
    ·rw [if_neg h2, if_neg h2, if_pos rfl, show wrap64 ((i : Int) + 1) = ((i + 1 : Nat) : Int) by unfold wrap64; omega]
     exact hk
  ·refine ⟨1, ?_⟩
   simp only [slices_Compare_int_int.l0]
   rw [if_pos (by omega), if_pos (by omega), if_pos (by omega), if_pos (by omega), List.drop_eq_getElem_cons hi', List.drop_eq_nil_of_le (by omega : b.length ≤ i)]
   rfl
theorem compareLL (A0 : Option Addr) (c0 : Nat) (l0 : List Int) (A1 : Option Addr) (c1 : Nat) (l1 : List Int) (W : World) (h0 : Kd.C (Kd.int .i64) W A0 l0.length l0) (hc0 : l0.length ≤ c0) (h1 : Kd.C (Kd.int .i64) W A1 l1.length l1) (hc1 : l1.length ≤ c1) :
  Calls Tryd.prog 26 #[.slice A0 l0.length c0, .slice A1 l1.length c1] W fun e w' => e = .returned (.int .i64 (cmpLL l0 l1)) ∧ ∃ q, w' = W.drewN q := by
 obtain ⟨k, hk⟩ := cmpLL_loop l0 l1 (Kd.C_max h0) (Kd.C_max h1) _ 0 rfl (Nat.zero_le _) (Nat.zero_le _)
 rw [List.drop_zero, List.drop_zero] at hk
 exact (slices_Compare_int_int.calls k A0 c0 l0 A1 c1 l1 _ W h0 hc0 h1 hc1 hk).mono fun e w' ⟨he, n, hn⟩ => ⟨he, n, hn⟩
theorem impl_groups.eqIn_nil (P : Program) (w : World) (d : Nat) (t e : TypeId) (h : P.underlying t = some (.slice e)) : (Op.equalIn (d + 1) t (.slice none 0 0) (.slice none 0 0)).run P w = .ok true w := by
 simp [Op.equalIn, run_underlying h]
theorem impl_groups.eqIn_some (P : Program) (w : World) (d : Nat) (t e : TypeId) (ad : Addr) (n c : Nat) (h : P.underlying t = some (.slice e)) : (Op.equalIn (d + 1) t (.slice (some ad) n c) (.slice none 0 0)).run P w = .ok false w := by
 simp [Op.equalIn, run_underlying h]
theorem impl_groups.eql_nil (P : Program) (w : World) (t e : TypeId) (h : P.underlying t = some (.slice e)) : (Go.binOp .eql t (.slice none 0 0) (.slice none 0 0)).run P w = .ok (.bool true) w := by
 have hq : (Op.equal t (.slice none 0 0) (.slice none 0 0)).run P w = .ok true w := impl_groups.eqIn_nil P w 9999 t e h
 simp only [Go.binOp]
 simp [hq]
theorem impl_groups.eql_some (P : Program) (w : World) (t e : TypeId) (ad : Addr) (n c : Nat) (h : P.underlying t = some (.slice e)) : (Go.binOp .eql t (.slice (some ad) n c) (.slice none 0 0)).run P w = .ok (.bool false) w := by
 have hq : (Op.equal t (.slice (some ad) n c) (.slice none 0 0)).run P w = .ok false w := impl_groups.eqIn_some P w 9999 t e ad n c h
 simp only [Go.binOp]
 simp [hq]
theorem impl_groups.neq_nil (P : Program) (w : World) (t e : TypeId) (h : P.underlying t = some (.slice e)) : (Go.binOp .neq t (.slice none 0 0) (.slice none 0 0)).run P w = .ok (.bool false) w := by
 have hq : (Op.equal t (.slice none 0 0) (.slice none 0 0)).run P w = .ok true w := impl_groups.eqIn_nil P w 9999 t e h
 simp only [Go.binOp]
 simp [hq]
theorem impl_groups.neq_some (P : Program) (w : World) (t e : TypeId) (ad : Addr) (n c : Nat) (h : P.underlying t = some (.slice e)) : (Go.binOp .neq t (.slice (some ad) n c) (.slice none 0 0)).run P w = .ok (.bool true) w := by
 have hq : (Op.equal t (.slice (some ad) n c) (.slice none 0 0)).run P w = .ok false w := impl_groups.eqIn_some P w 9999 t e ad n c h
 simp only [Go.binOp]
 simp [hq]
def impl_OneColourGroup.e (z : Int) (s : Option (List Int)) (o : List Int) : Option (List Int) := if (o.length : Int) = z then (match s with | none => some o | some b => if cmpLL o b < 0 then some o else some b) else s
set_option maxHeartbeats 8000000 in
set_option maxRecDepth 100000 in
theorem impl_OneColourGroup_1.calls (z : Int) (gs gb : Nat) (w0 W : World) (A : Option Addr) (c : Nat) (o : List Int) (s : Option (List Int)) (hz : 1 ≤ z) (hgb : w0.heap.size ≤ gb) (hS : (W.heap[gs]? = some (.cells #[.int .i64 z] 3 (0, 0)) ∧ ∃ (A_ : Option Addr) (c_ : Nat), W.heap[gb]? = some (.cells #[.slice A_ (Option.getD s []).length c_] 22 (0, 0)) ∧ Kd.R (Kd.int .i64) 3 W w0.heap.size (fun k_ => ¬ k_ = gb) (.slice A_ (Option.getD s []).length c_) (Option.getD s []) ∧ (s = none → A_ = none ∧ c_ = 0) ∧ (∀ b_, s = some b_ → (b_.length : Int) = z))) (hB : Below w0.heap.size w0 W) (hR : Kd.R (Kd.int .i64) 3 W w0.heap.size (fun k_ => ¬ k_ = gb) (.slice A o.length c) o) :
  Calls Tryd.prog 25 #[.slice A o.length c, .pointer (some ⟨gs, 0, none⟩), .pointer (some ⟨gb, 0, none⟩)] W fun e' w' => e' = .returned (.tuple #[]) ∧ (w'.heap[gs]? = some (.cells #[.int .i64 z] 3 (0, 0)) ∧ ∃ (A_ : Option Addr) (c_ : Nat), w'.heap[gb]? = some (.cells #[.slice A_ (Option.getD (impl_OneColourGroup.e z s o) []).length c_] 22 (0, 0)) ∧ Kd.R (Kd.int .i64) 3 w' w0.heap.size (fun k_ => ¬ k_ = gb) (.slice A_ (Option.getD (impl_OneColourGroup.e z s o) []).length c_) (Option.getD (impl_OneColourGroup.e z s o) []) ∧ ((impl_OneColourGroup.e z s o) = none → A_ = none ∧ c_ = 0) ∧ (∀ b_, (impl_OneColourGroup.e z s o) = some b_ → (b_.length : Int) = z)) ∧ Below w0.heap.size w0 w' ∧ Kept W w' (fun k_ => k_ = gb) := by
 have huI := Tryd.underlying22
 obtain ⟨hs, Ab, cb, hb, hRb, hn, hl⟩ := hS
 have NGS := Aside0.mk (show gs ≠ gb from fun e_ => by subst e_; have h_ := hs.symm.trans hb; simp at h_)
 have GB := Aside0.mk hgb
 have HB := Aside0.mk hB
 have HR := Aside0.mk hR
 have BS := Aside0.mk hs
 have BO := Aside0.mk hb
 have HRB := Aside0.mk hRb
 have HN := Aside0.mk hn
 have HLN := Aside0.mk hl
 have HCX := Aside0.mk (Kd.R_reads' hR).2.1
 have HCB := Aside0.mk (Kd.R_reads' hRb).2.1
 have HK := Aside0.mk (Kept.refl W (fun k_ => k_ = gb))
 clear hgb hB hR hs hb hRb hn hl
 have hzs : W.cell? ⟨gs, 0, none⟩ = some (.int .i64 z) := (blk_cell BS.out 0).trans rfl
 by_cases h0 : (o.length : Int) = z
 rotate_left
 ·have h1 : decide ((o.length : Int) = z) = false := decide_eq_false h0
  have h2 : ((o.length : Int) == z) = false := by simpa using h0
  have NE := Aside0.mk (show impl_OneColourGroup.e z s o = s from if_neg h0)
  clear h0 hz
  have hzb : W.cell? ⟨gb, 0, none⟩ = some (.slice Ab (Option.getD s []).length cb) := (blk_cell BO.out 0).trans rfl
  go_enter Tryd.func25, Tryd.ntmps25
  go_wp2
  first | go_end0 | ((try simp only [Exit.inBlock, Exit.then]); refine bodyPost_ret (results_none rfl _ _ _) rfl ?_)
  exact ⟨rfl, by rw [NE.out]; exact ⟨(by (with_reducible repeat (first | refine blk_drewN ?_ _ | refine blk_drew ?_ | refine blk_alloc ?_ _)); exact BS.out), Ab, cb, (by (with_reducible repeat (first | refine blk_drewN ?_ _ | refine blk_drew ?_ | refine blk_alloc ?_ _)); exact BO.out), (by (with_reducible repeat (first | apply Kd.R_alloc | apply Kd.R_drewN | apply Kd.R_drew)); exact HRB.out), HN.out, HLN.out⟩, by repeat (first | (with_reducible first | exact HB.out | apply below_alloc | apply pw_below_drewN | apply below_drew1) | exact HB.out), (by (with_reducible repeat (first | refine Kept.alloc ?_ _ | refine Kept.drewN ?_ _ | refine Kept.drew ?_)); exact HK.out)⟩
 ·obtain ⟨ao_, eo_, ho_⟩ := Kd.at_int (Kd.R_reads' HR.out).2.2 0 (Int.le_refl 0) (by omega)
  cases eo_
  clear ho_
  have HZ := Aside0.mk h0
  have HZ1 := Aside0.mk hz
  have h1 : decide ((o.length : Int) = z) = true := decide_eq_true h0
  have h2 : ((o.length : Int) == z) = true := by simpa using h0
  clear h0 hz
  cases s with
  | none =>
   have NE := Aside0.mk (show impl_OneColourGroup.e z none o = some o from if_pos HZ.out)
   obtain ⟨rfl, rfl⟩ := HN.out rfl
   have hzb : W.cell? ⟨gb, 0, none⟩ = some (.slice none 0 0) := (blk_cell BO.out 0).trans rfl
   have hq1 : ∀ w_ : World, (Go.binOp .eql 22 (.slice none 0 0) (.slice none 0 0)).run Tryd.prog w_ = .ok (.bool true) w_ := fun w_ => impl_groups.eql_nil _ w_ _ _ huI
   go_enter Tryd.func25, Tryd.ntmps25
   go_wp2_with (first | (refine store_event (t := 22) (p := 2) (v := ?vn1_) (w1 := ?wn1_) ?hg ?ho ?hn ?hr ?_; (case ho => rfl); (case hg => rfl); (case hn => rfl); (case hr => have hf_ := blk_frozen BO.out 0; first | (go_simp; done) | (go_simp; rfl)); intro w2 hw; have BO2 := Aside0.mk (by rw [hw]; (with_reducible repeat (first | refine blk_drewN ?_ _ | refine blk_drew ?_ | refine blk_alloc ?_ _)); exact blk_put (by (with_reducible repeat (first | refine blk_drewN ?_ _ | refine blk_drew ?_ | refine blk_alloc ?_ _)); exact BO.out) 0 _ rfl : w2.heap[gb]? = some (.cells #[.slice (some ao_) o.length c] 22 (0, 0))); have HB2 := Aside0.mk (by rw [hw]; (with_reducible repeat (first | apply below_drew1 | apply pw_below_drewN)); exact below_set (by repeat (first | (with_reducible first | exact HB.out | apply below_alloc | apply pw_below_drewN | apply below_drew1) | exact HB.out)) GB.out : Below w0.heap.size w0 w2); have HK2 := Aside0.mk (by rw [hw]; (with_reducible repeat (first | refine Kept.alloc ?_ _ | refine Kept.drewN ?_ _ | refine Kept.drew ?_)); exact Kept.setCell (by (with_reducible repeat (first | refine Kept.alloc ?_ _ | refine Kept.drewN ?_ _ | refine Kept.drew ?_)); exact Kept.refl W _) (.inl (by rfl)) _ : Kept W w2 (fun k_ => k_ = gb)); have BS2 := Aside0.mk (blk_kept BS.out HK2.out (fun e_ => NGS.out e_)); have HR2 := Aside0.mk (Kd.R_kept HR.out HK2.out (fun k_ h_ e_ => h_ e_)); clear hw))
   first | go_end0 | ((try simp only [Exit.inBlock, Exit.then]); refine bodyPost_ret (results_none rfl _ _ _) rfl ?_)
   exact ⟨rfl, by rw [NE.out]; exact ⟨(by (with_reducible repeat (first | refine blk_drewN ?_ _ | refine blk_drew ?_ | refine blk_alloc ?_ _)); exact BS2.out), some ao_, c, (by (with_reducible repeat (first | refine blk_drewN ?_ _ | refine blk_drew ?_ | refine blk_alloc ?_ _)); exact BO2.out), (by (with_reducible repeat (first | apply Kd.R_alloc | apply Kd.R_drewN | apply Kd.R_drew)); exact HR2.out), fun e_ => (by cases e_), fun b_ e_ => (by cases e_; exact HZ.out)⟩, by repeat (first | (with_reducible first | exact HB2.out | apply below_alloc | apply pw_below_drewN | apply below_drew1) | exact HB2.out), (by (with_reducible repeat (first | refine Kept.alloc ?_ _ | refine Kept.drewN ?_ _ | refine Kept.drew ?_)); exact HK2.out)⟩
  | some b =>
   obtain ⟨ab_, eb_, hb_⟩ := Kd.at_int (Kd.R_reads' HRB.out).2.2 0 (Int.le_refl 0) (by have h3 := HLN.out b rfl; have h4 := HZ1.out; show (0 : Int) < ((Option.getD (some b) []).length : Int); simp only [Option.getD_some]; omega)
   cases eb_
   clear hb_
   have HRb := Aside0.mk (show Kd.R (Kd.int .i64) 3 W w0.heap.size (fun k_ => ¬ k_ = gb) (.slice (some ab_) b.length cb) b from HRB.out)
   have HCb := Aside0.mk (show b.length ≤ cb from HCB.out)
   have hzb : W.cell? ⟨gb, 0, none⟩ = some (.slice (some ab_) b.length cb) := (blk_cell BO.out 0).trans rfl
   have hq1 : ∀ w_ : World, (Go.binOp .eql 22 (.slice (some ab_) b.length cb) (.slice none 0 0)).run Tryd.prog w_ = .ok (.bool false) w_ := fun w_ => impl_groups.eql_some _ w_ _ _ _ _ _ huI
   by_cases hc : cmpLL o b < 0
   ·have NE := Aside0.mk (show impl_OneColourGroup.e z (some b) o = some o from by unfold impl_OneColourGroup.e; rw [if_pos HZ.out]; exact if_pos hc)
    have hc1 : decide (cmpLL o b < 0) = true := decide_eq_true hc
    clear hc
    go_enter Tryd.func25, Tryd.ntmps25
    go_wp2_with (first | (go_at_call 26; (with_reducible refine (compareLL (some ao_) c o (some ab_) cb b _ ?k1 HCX.out ?k2 HCb.out).mono ?_); (case k1 => repeat (first | exact (Kd.R_reads' HR.out).2.2 | (with_reducible refine Kd.C_alloc ?_ _) | (with_reducible refine Kd.C_drewN ?_ _) | (with_reducible refine Kd.C_drew ?_))); (case k2 => repeat (first | exact (Kd.R_reads' HRb.out).2.2 | (with_reducible refine Kd.C_alloc ?_ _) | (with_reducible refine Kd.C_drewN ?_ _) | (with_reducible refine Kd.C_drew ?_))); rintro e_ w' ⟨rfl, ⟨nd, rfl⟩⟩) | (refine store_event (t := 22) (p := 2) (v := ?vn2_) (w1 := ?wn2_) ?hg ?ho ?hn ?hr ?_; (case ho => rfl); (case hg => rfl); (case hn => rfl); (case hr => have hf_ := blk_frozen BO.out 0; first | (go_simp; done) | (go_simp; rfl)); intro w2 hw; have BO2 := Aside0.mk (by rw [hw]; (with_reducible repeat (first | refine blk_drewN ?_ _ | refine blk_drew ?_ | refine blk_alloc ?_ _)); exact blk_put (by (with_reducible repeat (first | refine blk_drewN ?_ _ | refine blk_drew ?_ | refine blk_alloc ?_ _)); exact BO.out) 0 _ rfl : w2.heap[gb]? = some (.cells #[.slice (some ao_) o.length c] 22 (0, 0))); have HB2 := Aside0.mk (by rw [hw]; (with_reducible repeat (first | apply below_drew1 | apply pw_below_drewN)); exact below_set (by repeat (first | (with_reducible first | exact HB.out | apply below_alloc | apply pw_below_drewN | apply below_drew1) | exact HB.out)) GB.out : Below w0.heap.size w0 w2); have HK2 := Aside0.mk (by rw [hw]; (with_reducible repeat (first | refine Kept.alloc ?_ _ | refine Kept.drewN ?_ _ | refine Kept.drew ?_)); exact Kept.setCell (by (with_reducible repeat (first | refine Kept.alloc ?_ _ | refine Kept.drewN ?_ _ | refine Kept.drew ?_)); exact Kept.refl W _) (.inl (by rfl)) _ : Kept W w2 (fun k_ => k_ = gb)); have BS2 := Aside0.mk (blk_kept BS.out HK2.out (fun e_ => NGS.out e_)); have HR2 := Aside0.mk (Kd.R_kept HR.out HK2.out (fun k_ h_ e_ => h_ e_)); clear hw))
    first | go_end0 | ((try simp only [Exit.inBlock, Exit.then]); refine bodyPost_ret (results_none rfl _ _ _) rfl ?_)
    exact ⟨rfl, by rw [NE.out]; exact ⟨(by (with_reducible repeat (first | refine blk_drewN ?_ _ | refine blk_drew ?_ | refine blk_alloc ?_ _)); exact BS2.out), some ao_, c, (by (with_reducible repeat (first | refine blk_drewN ?_ _ | refine blk_drew ?_ | refine blk_alloc ?_ _)); exact BO2.out), (by (with_reducible repeat (first | apply Kd.R_alloc | apply Kd.R_drewN | apply Kd.R_drew)); exact HR2.out), fun e_ => (by cases e_), fun b_ e_ => (by cases e_; exact HZ.out)⟩, by repeat (first | (with_reducible first | exact HB2.out | apply below_alloc | apply pw_below_drewN | apply below_drew1) | exact HB2.out), (by (with_reducible repeat (first | refine Kept.alloc ?_ _ | refine Kept.drewN ?_ _ | refine Kept.drew ?_)); exact HK2.out)⟩
   ·have NE := Aside0.mk (show impl_OneColourGroup.e z (some b) o = some b from by unfold impl_OneColourGroup.e; rw [if_pos HZ.out]; exact if_neg hc)
    have hc1 : decide (cmpLL o b < 0) = false := decide_eq_false hc
    clear hc
    go_enter Tryd.func25, Tryd.ntmps25
    go_wp2_with (first | (go_at_call 26; (with_reducible refine (compareLL (some ao_) c o (some ab_) cb b _ ?k1 HCX.out ?k2 HCb.out).mono ?_); (case k1 => repeat (first | exact (Kd.R_reads' HR.out).2.2 | (with_reducible refine Kd.C_alloc ?_ _) | (with_reducible refine Kd.C_drewN ?_ _) | (with_reducible refine Kd.C_drew ?_))); (case k2 => repeat (first | exact (Kd.R_reads' HRb.out).2.2 | (with_reducible refine Kd.C_alloc ?_ _) | (with_reducible refine Kd.C_drewN ?_ _) | (with_reducible refine Kd.C_drew ?_))); rintro e_ w' ⟨rfl, ⟨nd, rfl⟩⟩))
    first | go_end0 | ((try simp only [Exit.inBlock, Exit.then]); refine bodyPost_ret (results_none rfl _ _ _) rfl ?_)
    exact ⟨rfl, by rw [NE.out]; exact ⟨(by (with_reducible repeat (first | refine blk_drewN ?_ _ | refine blk_drew ?_ | refine blk_alloc ?_ _)); exact BS.out), some ab_, cb, (by (with_reducible repeat (first | refine blk_drewN ?_ _ | refine blk_drew ?_ | refine blk_alloc ?_ _)); exact BO.out), (by (with_reducible repeat (first | apply Kd.R_alloc | apply Kd.R_drewN | apply Kd.R_drew)); exact HRB.out), HN.out, HLN.out⟩, by repeat (first | (with_reducible first | exact HB.out | apply below_alloc | apply pw_below_drewN | apply below_drew1) | exact HB.out), (by (with_reducible repeat (first | refine Kept.alloc ?_ _ | refine Kept.drewN ?_ _ | refine Kept.drew ?_)); exact HK.out)⟩
theorem impl_OneColourGroup.oc0 (k : Nat) (n m : Int) (AX : Option Addr) (cX : Nat) (X : List Int) (z : Int) (gs gb : Nat) (w0 W : World) (r : Option (List Int)) (hz : 1 ≤ z) (hgb : w0.heap.size ≤ gb) (hTb : Tab w0) (hB : Below w0.heap.size w0 W) (hC : Kd.C (Kd.int .i64) w0 AX X.length X) (hcX : X.length ≤ cX) (hs : W.heap[gs]? = some (.cells #[.int .i64 z] 3 (0, 0))) (hb : W.heap[gb]? = some (.cells #[.slice none 0 0] 22 (0, 0))) (h : impl_ocg.l (impl_OneColourGroup.e z) k n m X 0 none = some r) :
  Calls Tryd.prog 21 #[.agg #[.int .i64 n, .int .i64 m, .slice AX X.length cX], .func (.func 25) #[] #[.pointer (some ⟨gs, 0, none⟩), .pointer (some ⟨gb, 0, none⟩)]] W fun e' w' => e' = .returned (.tuple #[]) ∧ (w'.heap[gs]? = some (.cells #[.int .i64 z] 3 (0, 0)) ∧ ∃ (A_ : Option Addr) (c_ : Nat), w'.heap[gb]? = some (.cells #[.slice A_ (Option.getD r []).length c_] 22 (0, 0)) ∧ Kd.R (Kd.int .i64) 3 w' w0.heap.size (fun k_ => ¬ k_ = gb) (.slice A_ (Option.getD r []).length c_) (Option.getD r []) ∧ (r = none → A_ = none ∧ c_ = 0) ∧ (∀ b_, r = some b_ → (b_.length : Int) = z)) ∧ Below w0.heap.size w0 w' := by
 refine (impl_ocg.calls (fun s_ W_ => (W_.heap[gs]? = some (.cells #[.int .i64 z] 3 (0, 0)) ∧ ∃ (A_ : Option Addr) (c_ : Nat), W_.heap[gb]? = some (.cells #[.slice A_ (Option.getD s_ []).length c_] 22 (0, 0)) ∧ Kd.R (Kd.int .i64) 3 W_ w0.heap.size (fun k_ => ¬ k_ = gb) (.slice A_ (Option.getD s_ []).length c_) (Option.getD s_ []) ∧ (s_ = none → A_ = none ∧ c_ = 0) ∧ (∀ b_, s_ = some b_ → (b_.length : Int) = z))) (fun k_ => k_ = gb) (impl_OneColourGroup.e z) 25 _ #[.pointer (some ⟨gs, 0, none⟩), .pointer (some ⟨gb, 0, none⟩)] w0 Tryd.func25 (by kernel_rfl) rfl hTb (fun s_ W_ W2_ h_ hb_ => ?_) (fun s_ W_ h_ k_ hk_ => ?_) (fun W_ A c o s_ h_ hB_ hR_ _ => ?_) k n m AX cX X none r W hB hC hcX ⟨hs, none, 0, hb, Kd.R_nil _ _ _ _ _, fun _ => ⟨rfl, rfl⟩, fun b_ e_ => (by cases e_)⟩ h).mono ?_
 ·obtain ⟨h1, A_, c_, h2, h3, h4, h5⟩ := h_
  exact ⟨blk_below (g := gs) (o := (.cells #[.int .i64 z] 3 (0, 0))) h1 hb_, A_, c_, blk_below h2 hb_, Kd.R_below h3 hb_, h4, h5⟩
 ·obtain ⟨h1, A_, c_, h2, h3, h4, h5⟩ := h_
  exact hk_ ▸ blk_lt h2
 ·have e_ : (#[.slice A o.length c] ++ #[.pointer (some ⟨gs, 0, none⟩), .pointer (some ⟨gb, 0, none⟩)] : Array Value) = #[.slice A o.length c, .pointer (some ⟨gs, 0, none⟩), .pointer (some ⟨gb, 0, none⟩)] := by simp
  rw [e_]
  exact impl_OneColourGroup_1.calls z gs gb w0 W_ A c o s_ hz hgb h_ hB_ hR_
 ·rintro e' w' ⟨rfl, h1, h2, h3⟩
  exact ⟨rfl, h1, h2⟩
def impl_OneColourGroup.f (k : Nat) (a0_0 : Int) (a0_1 : Int) (l0_2 : List Int) (a1 : Int) : Option (List Int × Bool) := (impl_IsPainting.f k a0_0 a0_1 l0_2).bind fun s => if s = true then ((impl_within.f a1 2 8).bind fun b => if b = true then ((impl_ocg.l (impl_OneColourGroup.e a1) k a0_0 a0_1 l0_2 0 none).bind fun q => some (Option.getD q [], Option.isSome q)) else some ([], false)) else some ([], false)
theorem impl_OneColourGroup.mono : ∀ a0 a1 a2 a3 k, LeO (impl_OneColourGroup.f k a0 a1 a2 a3) (impl_OneColourGroup.f (k + 1) a0 a1 a2 a3) := by
 intro a0 a1 a2 a3 k
 unfold impl_OneColourGroup.f
 exact LeO.bind (impl_IsPainting.mono _ _ _ _) (fun _ => LeO.ite (LeO.bind (LeO.refl _) (fun _ => LeO.ite (LeO.bind (impl_ocg.mono _ _ _ _ _ _ _) (fun _ => LeO.refl _)) (LeO.refl _))) (LeO.refl _))
theorem impl_OneColourGroup.within {a : Int} (h : impl_within.f a 2 8 = some true) : 1 ≤ a := by
 unfold impl_within.f at h
 by_cases h0 : 2 ≤ a
 ·omega
 ·rw [if_neg h0] at h; cases h
def impl_OneColourGroup.T5 : Bool × List (List Nat × List Nat) := (true, [([], []), ([], []), ([1], [1]), ([0, 0], [0]), ([2, 3, 0, 1, 2, 3], [2])])
def impl_OneColourGroup.B5 : List Nat := [0, 0, 2, 1, 15]
theorem impl_OneColourGroup.tab5 : rtab .any (opsOf Tryd.f11 5) = impl_OneColourGroup.T5 := by kernel_rfl
theorem impl_OneColourGroup.bits5 : waitsOk impl_OneColourGroup.T5.2 impl_OneColourGroup.B5 = true := by kernel_rfl
set_option maxHeartbeats 8000000 in
set_option maxRecDepth 100000 in
theorem impl_OneColourGroup.calls (k : Nat) (a0_0 : Int) (a0_1 : Int) (A0_2 : Option Addr) (c0_2 : Nat) (l0_2 : List Int) (a1 : Int) (r1 : List Int) (r2 : Bool) (w : World) (hG : Tab w) (hr0_2 : Kd.C (Kd.int .i64) w A0_2 l0_2.length l0_2) (hc0_2 : l0_2.length ≤ c0_2) (h : impl_OneColourGroup.f k a0_0 a0_1 l0_2 a1 = some (r1, r2)) :
  Calls Tryd.prog 11 #[.agg #[.int .i64 a0_0, .int .i64 a0_1, .slice A0_2 l0_2.length c0_2], .int .i64 a1] w fun e w' => ∃ v0_ : Value, e = .returned (.tuple #[v0_, .bool r2]) ∧ Kd.R (Kd.int .i64) 3 w' w.heap.size (fun _ => True) v0_ r1 ∧ Below w.heap.size w w' := by
 have huP := Tryd.underlying28
 have huI := Tryd.underlying22
 have HG := Aside0.mk hG
 have HR0 := Aside0.mk hr0_2
 have HC0 := Aside0.mk hc0_2
 clear hG hr0_2 hc0_2
 have HB := Aside0.mk (Below.refl w.heap.size w)
 unfold impl_OneColourGroup.f at h
 replace h := Option.bind_eq_some_iff.1 h
 obtain ⟨s, hs, h⟩ := h
 have A1 := Aside0.mk hs
 clear hs
 cases s with
 | false =>
  rw [if_neg (by simp)] at h
  simp only [Option.some.injEq, Prod.mk.injEq] at h
  obtain ⟨rfl, rfl⟩ := h
  go_enter Tryd.func11, Tryd.ntmps11
  go_wp2_with (first | ((with_reducible refine gate_dst (N := 2) rfl ?_); refine box_event ?hg (N := 2) ?hd (cs := #[.int .i64 a0_0, .int .i64 a0_1, .slice A0_2 l0_2.length c0_2]) (t := 28) ?hr ?_; (case hd => rfl); (case hg => rfl); (case hr => first | (go_simp; done) | (go_simp; rfl)); intro gx hg w1 hbox hb; have HB1 := Aside0.mk ((below_step (by repeat (first | (with_reducible first | exact HB.out | apply below_alloc | apply pw_below_drewN | apply below_drew1) | exact HB.out)) hb : Below w.heap.size w w1)); have BX1 := Aside0.mk (hbox); have hzx0 : w1.cell? ⟨gx, 0, none⟩ = some (.int .i64 a0_0) := (blk_cell BX1.out 0).trans rfl; have hzx1 : w1.cell? ⟨gx, 1, none⟩ = some (.int .i64 a0_1) := (blk_cell BX1.out 1).trans rfl; have hzx2 : w1.cell? ⟨gx, 2, none⟩ = some (.slice A0_2 l0_2.length c0_2) := (blk_cell BX1.out 2).trans rfl; clear hb hbox hg) | ((with_reducible refine gate_dst (N := 3) rfl ?_); refine box_event ?hg (N := 3) ?hd (cs := #[.int .i64 a1]) (t := 3) ?hr ?_; (case hd => rfl); (case hg => rfl); (case hr => first | (go_simp; done) | (go_simp; rfl)); intro gs hg w2 hbox hb; clear hzx0 hzx1 hzx2; have HB2 := Aside0.mk ((below_step (by repeat (first | (with_reducible first | exact HB1.out | apply below_alloc | apply pw_below_drewN | apply below_drew1) | exact HB1.out)) hb : Below w.heap.size w w2)); have BX2 := Aside0.mk (blk_below (g := gx) (o := (.cells #[.int .i64 a0_0, .int .i64 a0_1, .slice A0_2 l0_2.length c0_2] 28 (0, 0))) (by (with_reducible repeat (first | refine blk_drewN ?_ _ | refine blk_drew ?_ | refine blk_alloc ?_ _)); exact BX1.out) hb); have BS2 := Aside0.mk (hbox); have hzx0 : w2.cell? ⟨gx, 0, none⟩ = some (.int .i64 a0_0) := (blk_cell BX2.out 0).trans rfl; have hzx1 : w2.cell? ⟨gx, 1, none⟩ = some (.int .i64 a0_1) := (blk_cell BX2.out 1).trans rfl; have hzx2 : w2.cell? ⟨gx, 2, none⟩ = some (.slice A0_2 l0_2.length c0_2) := (blk_cell BX2.out 2).trans rfl; have hzs : w2.cell? ⟨gs, 0, none⟩ = some (.int .i64 a1) := (blk_cell BS2.out 0).trans rfl; clear hb hbox hg) | (go_at_call 20; (with_reducible refine (impl_IsPainting.calls k a0_0 a0_1 A0_2 c0_2 l0_2 false _ ?k1 HC0.out A1.out).mono ?_); (case k1 => repeat (first | exact (Kd.C_below HR0.out HB2.out) | (with_reducible refine Kd.C_alloc ?_ _) | (with_reducible refine Kd.C_drewN ?_ _) | (with_reducible refine Kd.C_drew ?_))); rintro e_ w3 ⟨rfl, hb⟩; clear hzx0 hzx1 hzx2 hzs; have HB3 := Aside0.mk ((below_step (by repeat (first | (with_reducible first | exact HB2.out | apply below_alloc | apply pw_below_drewN | apply below_drew1) | exact HB2.out)) hb : Below w.heap.size w w3)); have BX3 := Aside0.mk (blk_below (g := gx) (o := (.cells #[.int .i64 a0_0, .int .i64 a0_1, .slice A0_2 l0_2.length c0_2] 28 (0, 0))) (by (with_reducible repeat (first | refine blk_drewN ?_ _ | refine blk_drew ?_ | refine blk_alloc ?_ _)); exact BX2.out) hb); have BS3 := Aside0.mk (blk_below (g := gs) (o := (.cells #[.int .i64 a1] 3 (0, 0))) (by (with_reducible repeat (first | refine blk_drewN ?_ _ | refine blk_drew ?_ | refine blk_alloc ?_ _)); exact BS2.out) hb); have hzx0 : w3.cell? ⟨gx, 0, none⟩ = some (.int .i64 a0_0) := (blk_cell BX3.out 0).trans rfl; have hzx1 : w3.cell? ⟨gx, 1, none⟩ = some (.int .i64 a0_1) := (blk_cell BX3.out 1).trans rfl; have hzx2 : w3.cell? ⟨gx, 2, none⟩ = some (.slice A0_2 l0_2.length c0_2) := (blk_cell BX3.out 2).trans rfl; have hzs : w3.cell? ⟨gs, 0, none⟩ = some (.int .i64 a1) := (blk_cell BS3.out 0).trans rfl; clear hb))
  go_ret2
  exact ⟨_, (by first | rfl | (simp; done) | (simp [*]; done)), Kd.R_nil _ _ _ _ _, by repeat (first | (with_reducible first | exact HB3.out | apply below_alloc | apply pw_below_drewN | apply below_drew1) | exact HB3.out)⟩
 | true =>
  rw [if_pos rfl] at h
  replace h := Option.bind_eq_some_iff.1 h
  obtain ⟨b, hb, h⟩ := h
  cases b with
  | false =>
   have A2 := Aside0.mk hb
   clear hb
   rw [if_neg (by simp)] at h
   simp only [Option.some.injEq, Prod.mk.injEq] at h
   obtain ⟨rfl, rfl⟩ := h
   go_enter Tryd.func11, Tryd.ntmps11
   go_wp2_with (first | ((with_reducible refine gate_dst (N := 2) rfl ?_); refine box_event ?hg (N := 2) ?hd (cs := #[.int .i64 a0_0, .int .i64 a0_1, .slice A0_2 l0_2.length c0_2]) (t := 28) ?hr ?_; (case hd => rfl); (case hg => rfl); (case hr => first | (go_simp; done) | (go_simp; rfl)); intro gx hg w1 hbox hb; have HB1 := Aside0.mk ((below_step (by repeat (first | (with_reducible first | exact HB.out | apply below_alloc | apply pw_below_drewN | apply below_drew1) | exact HB.out)) hb : Below w.heap.size w w1)); have BX1 := Aside0.mk (hbox); have hzx0 : w1.cell? ⟨gx, 0, none⟩ = some (.int .i64 a0_0) := (blk_cell BX1.out 0).trans rfl; have hzx1 : w1.cell? ⟨gx, 1, none⟩ = some (.int .i64 a0_1) := (blk_cell BX1.out 1).trans rfl; have hzx2 : w1.cell? ⟨gx, 2, none⟩ = some (.slice A0_2 l0_2.length c0_2) := (blk_cell BX1.out 2).trans rfl; clear hb hbox hg) | ((with_reducible refine gate_dst (N := 3) rfl ?_); refine box_event ?hg (N := 3) ?hd (cs := #[.int .i64 a1]) (t := 3) ?hr ?_; (case hd => rfl); (case hg => rfl); (case hr => first | (go_simp; done) | (go_simp; rfl)); intro gs hg w2 hbox hb; clear hzx0 hzx1 hzx2; have HB2 := Aside0.mk ((below_step (by repeat (first | (with_reducible first | exact HB1.out | apply below_alloc | apply pw_below_drewN | apply below_drew1) | exact HB1.out)) hb : Below w.heap.size w w2)); have BX2 := Aside0.mk (blk_below (g := gx) (o := (.cells #[.int .i64 a0_0, .int .i64 a0_1, .slice A0_2 l0_2.length c0_2] 28 (0, 0))) (by (with_reducible repeat (first | refine blk_drewN ?_ _ | refine blk_drew ?_ | refine blk_alloc ?_ _)); exact BX1.out) hb); have BS2 := Aside0.mk (hbox); have hzx0 : w2.cell? ⟨gx, 0, none⟩ = some (.int .i64 a0_0) := (blk_cell BX2.out 0).trans rfl; have hzx1 : w2.cell? ⟨gx, 1, none⟩ = some (.int .i64 a0_1) := (blk_cell BX2.out 1).trans rfl; have hzx2 : w2.cell? ⟨gx, 2, none⟩ = some (.slice A0_2 l0_2.length c0_2) := (blk_cell BX2.out 2).trans rfl; have hzs : w2.cell? ⟨gs, 0, none⟩ = some (.int .i64 a1) := (blk_cell BS2.out 0).trans rfl; clear hb hbox hg) | (go_at_call 20; (with_reducible refine (impl_IsPainting.calls k a0_0 a0_1 A0_2 c0_2 l0_2 true _ ?k1 HC0.out A1.out).mono ?_); (case k1 => repeat (first | exact (Kd.C_below HR0.out HB2.out) | (with_reducible refine Kd.C_alloc ?_ _) | (with_reducible refine Kd.C_drewN ?_ _) | (with_reducible refine Kd.C_drew ?_))); rintro e_ w3 ⟨rfl, hb⟩; clear hzx0 hzx1 hzx2 hzs; have HB3 := Aside0.mk ((below_step (by repeat (first | (with_reducible first | exact HB2.out | apply below_alloc | apply pw_below_drewN | apply below_drew1) | exact HB2.out)) hb : Below w.heap.size w w3)); have BX3 := Aside0.mk (blk_below (g := gx) (o := (.cells #[.int .i64 a0_0, .int .i64 a0_1, .slice A0_2 l0_2.length c0_2] 28 (0, 0))) (by (with_reducible repeat (first | refine blk_drewN ?_ _ | refine blk_drew ?_ | refine blk_alloc ?_ _)); exact BX2.out) hb); have BS3 := Aside0.mk (blk_below (g := gs) (o := (.cells #[.int .i64 a1] 3 (0, 0))) (by (with_reducible repeat (first | refine blk_drewN ?_ _ | refine blk_drew ?_ | refine blk_alloc ?_ _)); exact BS2.out) hb); have hzx0 : w3.cell? ⟨gx, 0, none⟩ = some (.int .i64 a0_0) := (blk_cell BX3.out 0).trans rfl; have hzx1 : w3.cell? ⟨gx, 1, none⟩ = some (.int .i64 a0_1) := (blk_cell BX3.out 1).trans rfl; have hzx2 : w3.cell? ⟨gx, 2, none⟩ = some (.slice A0_2 l0_2.length c0_2) := (blk_cell BX3.out 2).trans rfl; have hzs : w3.cell? ⟨gs, 0, none⟩ = some (.int .i64 a1) := (blk_cell BS3.out 0).trans rfl; clear hb) | (go_at_call 24; (with_reducible refine (impl_within.calls a1 2 8 false _ A2.out).mono ?_); rintro e_ w' ⟨rfl, ⟨nd, rfl⟩⟩))
   go_ret2
   exact ⟨_, (by first | rfl | (simp; done) | (simp [*]; done)), Kd.R_nil _ _ _ _ _, by repeat (first | (with_reducible first | exact HB3.out | apply below_alloc | apply pw_below_drewN | apply below_drew1) | exact HB3.out)⟩
  | true =>
   have A2 := Aside0.mk hb
   have HZ := Aside0.mk (impl_OneColourGroup.within hb)
   clear hb
   rw [if_pos rfl] at h
   replace h := Option.bind_eq_some_iff.1 h
   obtain ⟨q, hq, h⟩ := h
   have A3 := Aside0.mk hq
   clear hq
   simp only [Option.some.injEq, Prod.mk.injEq] at h
   go_enter Tryd.func11, Tryd.ntmps11
   go_wp2_with (first | ((with_reducible refine gate_dst (N := 2) rfl ?_); refine box_event ?hg (N := 2) ?hd (cs := #[.int .i64 a0_0, .int .i64 a0_1, .slice A0_2 l0_2.length c0_2]) (t := 28) ?hr ?_; (case hd => rfl); (case hg => rfl); (case hr => first | (go_simp; done) | (go_simp; rfl)); intro gx hg w1 hbox hb; have HB1 := Aside0.mk ((below_step (by repeat (first | (with_reducible first | exact HB.out | apply below_alloc | apply pw_below_drewN | apply below_drew1) | exact HB.out)) hb : Below w.heap.size w w1)); have BX1 := Aside0.mk (hbox); have hzx0 : w1.cell? ⟨gx, 0, none⟩ = some (.int .i64 a0_0) := (blk_cell BX1.out 0).trans rfl; have hzx1 : w1.cell? ⟨gx, 1, none⟩ = some (.int .i64 a0_1) := (blk_cell BX1.out 1).trans rfl; have hzx2 : w1.cell? ⟨gx, 2, none⟩ = some (.slice A0_2 l0_2.length c0_2) := (blk_cell BX1.out 2).trans rfl; clear hb hbox hg) | ((with_reducible refine gate_dst (N := 3) rfl ?_); refine box_event ?hg (N := 3) ?hd (cs := #[.int .i64 a1]) (t := 3) ?hr ?_; (case hd => rfl); (case hg => rfl); (case hr => first | (go_simp; done) | (go_simp; rfl)); intro gs hg w2 hbox hb; clear hzx0 hzx1 hzx2; have HB2 := Aside0.mk ((below_step (by repeat (first | (with_reducible first | exact HB1.out | apply below_alloc | apply pw_below_drewN | apply below_drew1) | exact HB1.out)) hb : Below w.heap.size w w2)); have BX2 := Aside0.mk (blk_below (g := gx) (o := (.cells #[.int .i64 a0_0, .int .i64 a0_1, .slice A0_2 l0_2.length c0_2] 28 (0, 0))) (by (with_reducible repeat (first | refine blk_drewN ?_ _ | refine blk_drew ?_ | refine blk_alloc ?_ _)); exact BX1.out) hb); have BS2 := Aside0.mk (hbox); have hzx0 : w2.cell? ⟨gx, 0, none⟩ = some (.int .i64 a0_0) := (blk_cell BX2.out 0).trans rfl; have hzx1 : w2.cell? ⟨gx, 1, none⟩ = some (.int .i64 a0_1) := (blk_cell BX2.out 1).trans rfl; have hzx2 : w2.cell? ⟨gx, 2, none⟩ = some (.slice A0_2 l0_2.length c0_2) := (blk_cell BX2.out 2).trans rfl; have hzs : w2.cell? ⟨gs, 0, none⟩ = some (.int .i64 a1) := (blk_cell BS2.out 0).trans rfl; clear hb hbox hg) | (go_at_call 20; (with_reducible refine (impl_IsPainting.calls k a0_0 a0_1 A0_2 c0_2 l0_2 true _ ?k1 HC0.out A1.out).mono ?_); (case k1 => repeat (first | exact (Kd.C_below HR0.out HB2.out) | (with_reducible refine Kd.C_alloc ?_ _) | (with_reducible refine Kd.C_drewN ?_ _) | (with_reducible refine Kd.C_drew ?_))); rintro e_ w3 ⟨rfl, hb⟩; clear hzx0 hzx1 hzx2 hzs; have HB3 := Aside0.mk ((below_step (by repeat (first | (with_reducible first | exact HB2.out | apply below_alloc | apply pw_below_drewN | apply below_drew1) | exact HB2.out)) hb : Below w.heap.size w w3)); have BX3 := Aside0.mk (blk_below (g := gx) (o := (.cells #[.int .i64 a0_0, .int .i64 a0_1, .slice A0_2 l0_2.length c0_2] 28 (0, 0))) (by (with_reducible repeat (first | refine blk_drewN ?_ _ | refine blk_drew ?_ | refine blk_alloc ?_ _)); exact BX2.out) hb); have BS3 := Aside0.mk (blk_below (g := gs) (o := (.cells #[.int .i64 a1] 3 (0, 0))) (by (with_reducible repeat (first | refine blk_drewN ?_ _ | refine blk_drew ?_ | refine blk_alloc ?_ _)); exact BS2.out) hb); have hzx0 : w3.cell? ⟨gx, 0, none⟩ = some (.int .i64 a0_0) := (blk_cell BX3.out 0).trans rfl; have hzx1 : w3.cell? ⟨gx, 1, none⟩ = some (.int .i64 a0_1) := (blk_cell BX3.out 1).trans rfl; have hzx2 : w3.cell? ⟨gx, 2, none⟩ = some (.slice A0_2 l0_2.length c0_2) := (blk_cell BX3.out 2).trans rfl; have hzs : w3.cell? ⟨gs, 0, none⟩ = some (.int .i64 a1) := (blk_cell BS3.out 0).trans rfl; clear hb) | (go_at_call 24; (with_reducible refine (impl_within.calls a1 2 8 true _ A2.out).mono ?_); rintro e_ w' ⟨rfl, ⟨nd, rfl⟩⟩) | ((with_reducible refine gate_dst (N := 6) rfl ?_); refine box_event ?hg (N := 6) ?hd (cs := #[.slice none 0 0]) (t := 22) ?hr ?_; (case hd => rfl); (case hg => rfl); (case hr => first | (go_simp; done) | (go_simp; rfl)); intro gb hg w6 hbox hb; clear hzx0 hzx1 hzx2 hzs; have GB := Aside0.mk (show w.heap.size ≤ gb from by rw [hg]; exact below_size (by repeat (first | (with_reducible first | exact HB3.out | apply below_alloc | apply pw_below_drewN | apply below_drew1) | exact HB3.out))); have NXB := Aside0.mk (show gx ≠ gb from by rw [hg]; exact Nat.ne_of_lt (blk_lt (by (with_reducible repeat (first | refine blk_drewN ?_ _ | refine blk_drew ?_ | refine blk_alloc ?_ _)); exact BX3.out))); have NSB := Aside0.mk (show gs ≠ gb from by rw [hg]; exact Nat.ne_of_lt (blk_lt (by (with_reducible repeat (first | refine blk_drewN ?_ _ | refine blk_drew ?_ | refine blk_alloc ?_ _)); exact BS3.out))); have HB6 := Aside0.mk ((below_step (by repeat (first | (with_reducible first | exact HB3.out | apply below_alloc | apply pw_below_drewN | apply below_drew1) | exact HB3.out)) hb : Below w.heap.size w w6)); have BX6 := Aside0.mk (blk_below (g := gx) (o := (.cells #[.int .i64 a0_0, .int .i64 a0_1, .slice A0_2 l0_2.length c0_2] 28 (0, 0))) (by (with_reducible repeat (first | refine blk_drewN ?_ _ | refine blk_drew ?_ | refine blk_alloc ?_ _)); exact BX3.out) hb); have BS6 := Aside0.mk (blk_below (g := gs) (o := (.cells #[.int .i64 a1] 3 (0, 0))) (by (with_reducible repeat (first | refine blk_drewN ?_ _ | refine blk_drew ?_ | refine blk_alloc ?_ _)); exact BS3.out) hb); have BB6 := Aside0.mk (hbox); have hzb : w6.cell? ⟨gb, 0, none⟩ = some (.slice none 0 0) := (blk_cell hbox 0).trans rfl; clear hb hbox hg) | (refine store_event (t := 22) (p := 6) (v := ?vn3_) (w1 := ?wn3_) ?hg ?ho ?hn ?hr ?_; (case ho => rfl); (case hg => rfl); (case hn => rfl); (case hr => have hf_ := blk_frozen BB6.out 0; first | (go_simp; done) | (go_simp; rfl)); intro w7 hw; have KS7 := Aside0.mk (by rw [hw]; (with_reducible repeat (first | refine Kept.alloc ?_ _ | refine Kept.drewN ?_ _ | refine Kept.drew ?_)); exact Kept.setCell (by (with_reducible repeat (first | refine Kept.alloc ?_ _ | refine Kept.drewN ?_ _ | refine Kept.drew ?_)); exact Kept.refl _ _) (.inl (by rfl)) _ : Kept w6 w7 (fun k_ => k_ = gb)); have HB7 := Aside0.mk (by rw [hw]; (with_reducible repeat (first | apply below_drew1 | apply pw_below_drewN)); exact below_set (by repeat (first | (with_reducible first | exact HB6.out | apply below_alloc | apply pw_below_drewN | apply below_drew1) | exact HB6.out)) GB.out : Below w.heap.size w w7); have BB7 := Aside0.mk (by rw [hw]; (with_reducible repeat (first | refine blk_drewN ?_ _ | refine blk_drew ?_ | refine blk_alloc ?_ _)); exact blk_put (by (with_reducible repeat (first | refine blk_drewN ?_ _ | refine blk_drew ?_ | refine blk_alloc ?_ _)); exact BB6.out) 0 _ rfl : w7.heap[gb]? = some (.cells #[.slice none 0 0] 22 (0, 0))); have BX7 := Aside0.mk (blk_kept BX6.out KS7.out (fun e_ => NXB.out e_)); have BS7 := Aside0.mk (blk_kept BS6.out KS7.out (fun e_ => NSB.out e_)); clear hzb; have hzx0 : w7.cell? ⟨gx, 0, none⟩ = some (.int .i64 a0_0) := (blk_cell BX7.out 0).trans rfl; have hzx1 : w7.cell? ⟨gx, 1, none⟩ = some (.int .i64 a0_1) := (blk_cell BX7.out 1).trans rfl; have hzx2 : w7.cell? ⟨gx, 2, none⟩ = some (.slice A0_2 l0_2.length c0_2) := (blk_cell BX7.out 2).trans rfl; clear hw) | (go_at_call 21; (with_reducible refine (impl_OneColourGroup.oc0 k a0_0 a0_1 A0_2 c0_2 l0_2 a1 gs gb w _ q HZ.out GB.out HG.out ?sB HR0.out HC0.out ?sS ?sF A3.out).mono ?_); (case sB => exact (by repeat (first | (with_reducible first | exact HB7.out | apply below_alloc | apply pw_below_drewN | apply below_drew1) | exact HB7.out))); (case sS => exact (by (with_reducible repeat (first | refine blk_drewN ?_ _ | refine blk_drew ?_ | refine blk_alloc ?_ _)); exact BS7.out)); (case sF => exact (by (with_reducible repeat (first | refine blk_drewN ?_ _ | refine blk_drew ?_ | refine blk_alloc ?_ _)); exact BB7.out)); rintro e_ w8 ⟨rfl, ⟨hs8, A8, c8, hb8, hr8, hn8, hl8⟩, hB8⟩; have BB8 := Aside0.mk (hb8); have HR8 := Aside0.mk (hr8); have HN8 := Aside0.mk (hn8); have HL8 := Aside0.mk (hl8); have HB8 := Aside0.mk (hB8); clear hs8 hb8 hr8 hn8 hl8 hB8 hzx0 hzx1 hzx2))
   obtain ⟨rfl, rfl⟩ := h
   cases q with
   | none =>
    obtain ⟨rfl, rfl⟩ := HN8.out rfl
    have BF := Aside0.mk (show w8.heap[gb]? = some (.cells #[.slice none 0 0] 22 (0, 0)) from BB8.out)
    have hq1 : ∀ w_ : World, (Go.binOp .neq 22 (.slice none 0 0) (.slice none 0 0)).run Tryd.prog w_ = .ok (.bool false) w_ := fun w_ => impl_groups.neq_nil _ w_ _ _ huI
    refine start_ (n := 5) (S := fun w' => w'.cell? ⟨gb, 0, none⟩ = some (.slice none 0 0)) (ds := []) #[false, false, false, false, false] (by kernel_rfl) rfl rfl ((blk_cell (by (with_reducible repeat (first | refine blk_drewN ?_ _ | refine blk_drew ?_ | refine blk_alloc ?_ _)); exact BF.out) 0).trans rfl) (fun hHeld => ?_)
    refine with_tabW impl_OneColourGroup.tab5 impl_OneColourGroup.bits5 (fun HT_ HW_ => ?_)
    refine take_ (i := 0) (N := some 18) (v := ?_) (a' := ?_) #[true, false, false, false, false] rfl rfl (take_ofW HT_.out HW_.out (by kernel_rfl)) (fun _ _ _ h => h) (Or.inl ⟨by rfl, ?_⟩) hHeld ?_ ?_
    rotate_left
    ·rintro w' s0
     go_simp
     with_reducible rfl
    rotate_left
    ·simp only [Act.put, List.setIfInBounds_toArray, List.set_cons_zero, List.set_cons_succ, i64_w, i32_w]
     rfl
    refine take_ (i := 1) (N := some 19) (v := ?_) (a' := ?_) #[true, true, false, false, false] rfl rfl (take_ofW HT_.out HW_.out (by kernel_rfl)) (fun _ _ _ h => h) (Or.inl ⟨by rfl, ?_⟩) hHeld ?_ ?_
    rotate_left
    ·rintro w' s0
     go_simp
     with_reducible rfl
    rotate_left
    ·simp only [Act.put, List.setIfInBounds_toArray, List.set_cons_zero, List.set_cons_succ, i64_w, i32_w]
     rfl
    refine pure_ (i := 2) (N := some 20) (v := ?_) (a' := ?_) #[true, true, true, false, false] rfl rfl (any_of HT_.out (by kernel_rfl)) (fun _ _ _ h => h) (Or.inl ⟨by rfl, ?_⟩) ?_ ?_
    rotate_left
    ·intro w'
     go_simp
     with_reducible rfl
    rotate_left
    ·simp only [Act.put, List.setIfInBounds_toArray, List.set_cons_zero, List.set_cons_succ, i64_w, i32_w]
     rfl
    refine pure_ (i := 3) (N := some 4) (v := ?_) (a' := ?_) #[true, true, true, true, false] rfl rfl (any_of HT_.out (by kernel_rfl)) (fun _ _ _ h => h) (Or.inl ⟨by rfl, ?_⟩) ?_ ?_
    rotate_left
    ·intro w'
     go_simp
     with_reducible rfl
    rotate_left
    ·simp only [Act.put, List.setIfInBounds_toArray, List.set_cons_zero, List.set_cons_succ, i64_w, i32_w]
     rfl
    refine pure_ (i := 4) (N := some 5) (v := ?_) (a' := ?_) #[true, true, true, true, true] rfl rfl (any_of HT_.out (by kernel_rfl)) (fun _ _ _ h => h) (Or.inl ⟨by rfl, ?_⟩) ?_ ?_
    rotate_left
    ·intro w'
     go_simp
     with_reducible rfl
    rotate_left
    ·simp only [Act.put, List.setIfInBounds_toArray, List.set_cons_zero, List.set_cons_succ, i64_w, i32_w]
     rfl
    refine done_ (done_of HT_.out (by kernel_rfl)) ?_
    go_wp2
    go_ret2
    exact ⟨_, (by first | rfl | (simp; done) | (simp [*]; done)), Kd.R_nil _ _ _ _ _, by repeat (first | (with_reducible first | exact HB8.out | apply below_alloc | apply pw_below_drewN | apply below_drew1) | exact HB8.out)⟩
   | some x =>
    have HX := Aside0.mk (show Kd.R (Kd.int .i64) 3 w8 w.heap.size (fun _ => True) (.slice A8 x.length c8) x from Kd.R_mono HR8.out (fun _ _ => trivial))
    have BF := Aside0.mk (show w8.heap[gb]? = some (.cells #[.slice A8 x.length c8] 22 (0, 0)) from BB8.out)
    obtain ⟨ax_, ex_, hx0⟩ := Kd.at_int (Kd.R_reads' HX.out).2.2 0 (Int.le_refl 0) (by have h3 := HL8.out x rfl; have h4 := HZ.out; omega)
    cases ex_
    clear hx0
    have hq1 : ∀ w_ : World, (Go.binOp .neq 22 (.slice (some ax_) x.length c8) (.slice none 0 0)).run Tryd.prog w_ = .ok (.bool true) w_ := fun w_ => impl_groups.neq_some _ w_ _ _ _ _ _ huI
    refine start_ (n := 5) (S := fun w' => w'.cell? ⟨gb, 0, none⟩ = some (.slice (some ax_) x.length c8)) (ds := []) #[false, false, false, false, false] (by kernel_rfl) rfl rfl ((blk_cell (by (with_reducible repeat (first | refine blk_drewN ?_ _ | refine blk_drew ?_ | refine blk_alloc ?_ _)); exact BF.out) 0).trans rfl) (fun hHeld => ?_)
    refine with_tabW impl_OneColourGroup.tab5 impl_OneColourGroup.bits5 (fun HT_ HW_ => ?_)
    refine take_ (i := 0) (N := some 18) (v := ?_) (a' := ?_) #[true, false, false, false, false] rfl rfl (take_ofW HT_.out HW_.out (by kernel_rfl)) (fun _ _ _ h => h) (Or.inl ⟨by rfl, ?_⟩) hHeld ?_ ?_
    rotate_left
    ·rintro w' s0
     go_simp
     with_reducible rfl
    rotate_left
    ·simp only [Act.put, List.setIfInBounds_toArray, List.set_cons_zero, List.set_cons_succ, i64_w, i32_w]
     rfl
    refine take_ (i := 1) (N := some 19) (v := ?_) (a' := ?_) #[true, true, false, false, false] rfl rfl (take_ofW HT_.out HW_.out (by kernel_rfl)) (fun _ _ _ h => h) (Or.inl ⟨by rfl, ?_⟩) hHeld ?_ ?_
    rotate_left
    ·rintro w' s0
     go_simp
     with_reducible rfl
    rotate_left
    ·simp only [Act.put, List.setIfInBounds_toArray, List.set_cons_zero, List.set_cons_succ, i64_w, i32_w]
     rfl
    refine pure_ (i := 2) (N := some 20) (v := ?_) (a' := ?_) #[true, true, true, false, false] rfl rfl (any_of HT_.out (by kernel_rfl)) (fun _ _ _ h => h) (Or.inl ⟨by rfl, ?_⟩) ?_ ?_
    rotate_left
    ·intro w'
     go_simp
     with_reducible rfl
    rotate_left
    ·simp only [Act.put, List.setIfInBounds_toArray, List.set_cons_zero, List.set_cons_succ, i64_w, i32_w]
     rfl
    refine pure_ (i := 3) (N := some 4) (v := ?_) (a' := ?_) #[true, true, true, true, false] rfl rfl (any_of HT_.out (by kernel_rfl)) (fun _ _ _ h => h) (Or.inl ⟨by rfl, ?_⟩) ?_ ?_
    rotate_left
    ·intro w'
     go_simp
     with_reducible rfl
    rotate_left
    ·simp only [Act.put, List.setIfInBounds_toArray, List.set_cons_zero, List.set_cons_succ, i64_w, i32_w]
     rfl
    refine pure_ (i := 4) (N := some 5) (v := ?_) (a' := ?_) #[true, true, true, true, true] rfl rfl (any_of HT_.out (by kernel_rfl)) (fun _ _ _ h => h) (Or.inl ⟨by rfl, ?_⟩) ?_ ?_
    rotate_left
    ·intro w'
     go_simp
     with_reducible rfl
    rotate_left
    ·simp only [Act.put, List.setIfInBounds_toArray, List.set_cons_zero, List.set_cons_succ, i64_w, i32_w]
     rfl
    refine done_ (done_of HT_.out (by kernel_rfl)) ?_
    go_wp2
    go_ret2
    exact ⟨_, (by first | rfl | (simp; done) | (simp [*]; done)), (by (with_reducible repeat (first | apply Kd.R_alloc | apply Kd.R_drewN | apply Kd.R_drew)); exact HX.out), by repeat (first | (with_reducible first | exact HB8.out | apply below_alloc | apply pw_below_drewN | apply below_drew1) | exact HB8.out)⟩

end Go.Proofs.YteffcgocnkcpiaaDoor.Q
