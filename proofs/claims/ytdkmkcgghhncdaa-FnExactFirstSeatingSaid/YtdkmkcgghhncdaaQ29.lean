import Derived.Test.YtdkmkcgghhncdaaQ0
import Derived.Test.YtdkmkcgghhncdaaQ23
import Derived.Test.YtdkmkcgghhncdaaQ24
import Derived.Test.YtdkmkcgghhncdaaQ27
namespace Go.Proofs.Ytdkmkcgghhncdaa.Q
open Go.RowKit Go.Proofs.YtdkmkcgghhncdaaW.PrintWords Go.Proofs.YtdkmkcgghhncdaaW.PrintLast Go.Proofs.YtdkmkcgghhncdaaW.PrintMore
attribute [local go_sem] max2_int min2_int max_two min_two max_three min_three max_four min_four   -- for this text's walks alone
set_option linter.unusedVariables false
set_option linter.unusedSimpArgs false

/-! ### slices_Clone_int_int: function 35 (proved by hand) -/
/-- A slice's copy. -/
def slices_Clone_int_int.f (l0 : List Int) : Option (List Int) := if l0.length < 17592186044416 then some l0 else none
set_option maxHeartbeats 8000000 in
set_option maxRecDepth 100000 in
theorem slices_Clone_int_int.isnil (a : Option Addr) (n c : Nat) (W : World) : Sem.run Try.prog (binOp .eql 26 (.slice a n c) (.slice none 0 0)) W = Result.ok (.bool a.isNone) W := Lib.run_eql_slice_nil W _ _ a n c 0 0 Try.underlying26
set_option maxHeartbeats 8000000 in
set_option maxRecDepth 100000 in
theorem slices_Clone_int_int.calls (A0 : Option Addr) (c0 : Nat) (l0 : List Int) (r : List Int) (w : World) (hr0 : Kd.C (Kd.int .i64) w A0 l0.length l0) (hc0 : l0.length ≤ c0) (h : slices_Clone_int_int.f l0 = some r) :
  Calls Try.prog 35 #[.slice A0 l0.length c0] w fun e w' => ∃ v0_ : Value, e = .returned (v0_) ∧ Kd.R (Kd.int .i64) 3 w' w.heap.size (fun _ => True) v0_ r ∧ Below w.heap.size w w' := by
 have HR0 := Aside0.mk hr0
 have HC0 := Aside0.mk hc0
 clear hr0 hc0
 have HB := Aside0.mk (Below.refl w.heap.size w)
 have hnil := slices_Clone_int_int.isnil
 unfold slices_Clone_int_int.f at h
 by_cases c2 : l0.length < 17592186044416
 ·rw [if_pos c2] at h
  have LMc2 := Aside0.mk c2
  clear c2
  obtain rfl := Option.some.inj h
  clear h
  cases A0 with
  | none =>
   have hl : l0 = [] := by
    have := HR0.out
    rcases Nat.eq_zero_or_pos l0.length with h0 | h0
    ·exact List.eq_nil_of_length_eq_zero h0
    ·obtain ⟨ad, h, _⟩ := this.2.2 h0
     cases h
   subst hl
   go_enter Try.func35, Try.ntmps35
   go_wp2
   go_ret
   exact ⟨_, rfl, Kd.R_nil _ _ _ _ _, Below.refl _ _⟩
  | some ad0 =>
   go_enter Try.func35, Try.ntmps35
   go_wp2_with (first | ((with_reducible refine gate_dst (N := 5) rfl ?_); refine Kd.R_lit (Kd.int .i64) _ 3 ?hg (N := 5) ?hd (xs := ([] : List Int)) (inner := []) (ok := fun _ => True) (okp := fun _ => True) ?hr ?hp (fun _ hk => hk) trivial (Below.refl _ _) (Nat.le_refl _) (by simp) ?_; (case hd => rfl); (case hg => rfl); (case hr => first | (go_simp; done) | (go_simp; rfl)); (case hp => exact (Reps.none _ _)); intro v302 w3 ho4 hb hg_ hnew_; clear hg_ hnew_; have n0_ := Aside0.mk (Kd.R_lower ho4 (below_size (by repeat (first | (with_reducible first | exact HB.out | apply below_alloc | apply pw_below_drewN | apply below_drew1) | exact HB.out)))); have n1_ := Aside0.mk (below_step (by repeat (first | (with_reducible first | exact HB.out | apply below_alloc | apply pw_below_drewN | apply below_drew1) | exact HB.out)) hb); clear HB; have HO303 := n0_; have HB := n1_; clear n0_ n1_; clear hb ho4) | ((with_reducible refine gate_builtin (b := .append) (xs := #[.tmp 5, .tmp 6]) rfl ?_); at_builtin; refine Kd.R_append_rows (Kd.int .i64) (w0 := w) w.heap.size rfl (.tmp 5) (.tmp 6) 26 3 (.int .i64 0) 8 rfl Try.underlying26 info3 rfl (by decide) (by omega) v302 ([] : List Int) l0 _ _ _ (fun _ => True) (fun _ => False) rfl rfl ?aO ?aR (fun _ _ h => h) (fun _ h => h.elim) ?aF ?aB ?aS ?aL ?_; (case aR => repeat (first | exact (Kd.C_below HR0.out HB.out) | (with_reducible refine Kd.C_alloc ?_ _) | (with_reducible refine Kd.C_drewN ?_ _) | (with_reducible refine Kd.C_drew ?_))); (case aB => exact (by repeat (first | (with_reducible first | exact HB.out | apply below_alloc | apply pw_below_drewN | apply below_drew1) | exact HB.out))); (case aF => exact (fun _ _ => trivial)); (case aO => exact (by (with_reducible repeat (first | apply Kd.R_alloc | apply Kd.R_drewN | apply Kd.R_drew)); exact HO303.out)); (case aS => exact (below_size (by repeat (first | (with_reducible first | exact HB.out | apply below_alloc | apply pw_below_drewN | apply below_drew1) | exact HB.out)))); (case aL => have := LMc2.out; simp only [List.length_nil]; omega); intro v305 w5 ho hb hg hat; rw [List.nil_append] at ho; have n0_ := Aside0.mk (hb); have n1_ := Aside0.mk (ho); clear HB; clear HO303; have HB := n0_; have HO306 := n1_; clear n0_ n1_; clear ho hb hg hat))
   go_ret
   exact ⟨_, by first | rfl | (simp [errW_none, errW_some] <;> rfl), by (with_reducible repeat (first | apply Kd.R_alloc | apply Kd.R_drewN | apply Kd.R_drew)); exact HO306.out, by repeat (first | (with_reducible first | exact HB.out | apply below_alloc | apply pw_below_drewN | apply below_drew1) | exact HB.out)⟩
 ·rw [if_neg c2] at h
  exact absurd h (by simp)

end Go.Proofs.Ytdkmkcgghhncdaa.Q
namespace Go.Proofs.Ytdkmkcgghhncdaa.Q
open Go.RowKit Go.Proofs.YtdkmkcgghhncdaaW.PrintWords Go.Proofs.YtdkmkcgghhncdaaW.PrintLast Go.Proofs.YtdkmkcgghhncdaaW.PrintMore
attribute [local go_sem] max2_int min2_int max_two min_two max_three min_three max_four min_four   -- for this text's walks alone
set_option linter.unusedVariables false
set_option linter.unusedSimpArgs false

/-! ### slices_Index_int_int: function 44 -/
def slices_Index_int_int.l0 : Nat → List Int → Int → Int → Int → Option (Int)
 | 0, _, _, _, _ => none
 | k + 1, x0, x1, x7, x8 => if x8 < x7 then (if 0 ≤ x8 then (if x8 < (x0.length : Int) then (if x1 = (rd x0 x8) then (some x8) else (slices_Index_int_int.l0 k x0 x1 x7 (wrap64 (x8 + 1)))) else (none)) else (none)) else (some (-1))
def slices_Index_int_int.f (k : Nat) (l0 : List Int) (a1 : Int) : Option (Int) := slices_Index_int_int.l0 k l0 a1 (l0.length : Int) 0
theorem slices_Index_int_int.mono_l : ∀ k, (∀ y0 y1 y2 y3, LeO (slices_Index_int_int.l0 k y0 y1 y2 y3) (slices_Index_int_int.l0 (k + 1) y0 y1 y2 y3))
 | 0 => fun _ _ _ _ r h => by simp [slices_Index_int_int.l0] at h
 | k + 1 => by
  have ih0 := slices_Index_int_int.mono_l k
  ·intro y0 y1 y2 y3
   unfold slices_Index_int_int.l0
   repeat' first
   | (with_reducible exact ih0 _ _ _ _)
   | (with_reducible exact LeO.refl _)
   | (with_reducible exact LeO.none _)
   | (with_reducible refine LeO.ite ?_ ?_)
   | (with_reducible refine LeO.bind ?_ (fun _ => ?_))
   | exact ih0 _ _ _ _
   | exact LeO.none _
   | refine LeO.ite ?_ ?_
   | refine LeO.bind ?_ (fun _ => ?_)
theorem slices_Index_int_int.mono : ∀ a0 a1 k, LeO (slices_Index_int_int.f k a0 a1) (slices_Index_int_int.f (k + 1) a0 a1) := by
 intro a0 a1 k
 have ih0 := slices_Index_int_int.mono_l k
 unfold slices_Index_int_int.f
 repeat' first
   | (with_reducible exact ih0 _ _ _ _)
   | (with_reducible exact LeO.refl _)
   | (with_reducible exact LeO.none _)
   | (with_reducible refine LeO.ite ?_ ?_)
   | (with_reducible refine LeO.bind ?_ (fun _ => ?_))
   | exact ih0 _ _ _ _
   | exact LeO.none _
   | refine LeO.ite ?_ ?_
   | refine LeO.bind ?_ (fun _ => ?_)
set_option maxHeartbeats 8000000 in
set_option maxRecDepth 100000 in
theorem slices_Index_int_int.calls (k : Nat) (A0 : Option Addr) (c0 : Nat) (l0 : List Int) (a1 : Int) (r : Int) (w : World) (hr0 : Kd.C (Kd.int .i64) w A0 l0.length l0) (hc0 : l0.length ≤ c0) (h : slices_Index_int_int.f k l0 a1 = some r) :
  Calls Try.prog 44 #[.slice A0 l0.length c0, .int .i64 a1] w fun e w' => e = .returned (.int .i64 r) ∧ Drawn0 w w' := by
 have HR0 := Aside0.mk hr0
 have HC0 := Aside0.mk hc0
 clear hr0 hc0
 have H : (slices_Index_int_int.l0 k l0 a1 (l0.length : Int) 0) = some r := h
 clear h
 have H' := Aside0.mk H
 clear H
 go_enter Try.func44, Try.ntmps44
 go_wp2
 go_loopg [8] k (fun kq v8 w' => ∃ (x8_1 : Int), v8 = .int .i64 x8_1 ∧ Aside0 (slices_Index_int_int.l0 kq l0 a1 (l0.length : Int) x8_1 = some r) ∧ Aside0 (kq ≤ k) ∧ Drawn0 w w')
 case atStart => exact ⟨(0), (by first | rfl | (simp; done) | (simp [*]; done)), H', ⟨Nat.le_refl _⟩, by repeat (first | exact Drawn0.refl _ | apply Drawn0.step)⟩
 case round =>
  clear H'
  try clear p2
  obtain ⟨x8_1, rfl, HA, HK1, ⟨m1, rfl⟩⟩ := hrel
  cases gk with
  | zero => exact absurd HA.out (by simp [slices_Index_int_int.l0])
  | succ k1 =>
   have H := HA.out
   clear HA
   simp only [slices_Index_int_int.l0] at H
   by_cases c3 : x8_1 < (l0.length : Int)
   ·rw [if_pos c3] at H
    have c3b0 : decide (x8_1 < (l0.length : Int)) = true := decide_eq_true c3
    clear c3
    by_cases c4 : 0 ≤ x8_1
    ·rw [if_pos c4] at H
     have c4b0 : decide (0 ≤ x8_1) = true := decide_eq_true c4
     clear c4
     by_cases c5 : x8_1 < (l0.length : Int)
     ·rw [if_pos c5] at H
      have c5b0 : decide (x8_1 < (l0.length : Int)) = true := decide_eq_true c5
      clear c5
      by_cases c6 : a1 = (rd l0 x8_1)
      ·rw [if_pos c6] at H
       have c6b0 : (a1 == (rd l0 x8_1)) = true := beq_iff_eq.mpr c6
       have c6b1 : (a1 != (rd l0 x8_1)) = false := bne_eq_false_iff_eq.mpr c6
       clear c6
       obtain rfl := Option.some.inj H
       have p192 : 0 ≤ (x8_1 : Int) := of_decide_eq_true (by first | (with_reducible assumption) | assumption)
       have q192 : x8_1 < (l0.length : Int) := of_decide_eq_true (by first | (with_reducible assumption) | assumption)
       obtain ⟨ad192, e192, hx192_0⟩ := Kd.at_int HR0.out x8_1 p192 q192
       cases e192
       replace p192 := eq_true p192
       replace q192 := eq_true q192
       go_wp2
       go_ret
       exact ⟨by first | rfl | (simp; done) | (simp [*]; done), by repeat (first | exact Drawn0.refl _ | apply Drawn0.step)⟩
      ·rw [if_neg c6] at H
       have c6b0 : (a1 == (rd l0 x8_1)) = false := beq_eq_false_iff_ne.mpr c6
       have c6b1 : (a1 != (rd l0 x8_1)) = true := bne_iff_ne.mpr c6
       have H' := Aside0.mk H
       clear H
       have p192 : 0 ≤ (x8_1 : Int) := of_decide_eq_true (by first | (with_reducible assumption) | assumption)
       have q192 : x8_1 < (l0.length : Int) := of_decide_eq_true (by first | (with_reducible assumption) | assumption)
       obtain ⟨ad192, e192, hx192_0⟩ := Kd.at_int HR0.out x8_1 p192 q192
       cases e192
       replace p192 := eq_true p192
       replace q192 := eq_true q192
       go_wp2
       go_roundg k1
       case measure => have := HK1.out; omega
       case rel => exact ⟨(wrap64 (x8_1 + 1)), (by first | rfl | (simp; done) | (simp [*]; done)), H', ⟨by have := HK1.out; omega⟩, by repeat (first | exact Drawn0.refl _ | apply Drawn0.step)⟩
     ·rw [if_neg c5] at H
      exact absurd H (by simp)
    ·rw [if_neg c4] at H
     exact absurd H (by simp)
   ·rw [if_neg c3] at H
    have c3b0 : decide (x8_1 < (l0.length : Int)) = false := decide_eq_false c3
    clear c3
    obtain rfl := Option.some.inj H
    go_wp2
    go_ret
    exact ⟨by first | rfl | (simp; done) | (simp [*]; done), by repeat (first | exact Drawn0.refl _ | apply Drawn0.step)⟩

end Go.Proofs.Ytdkmkcgghhncdaa.Q
namespace Go.Proofs.Ytdkmkcgghhncdaa.Q
open Go.RowKit Go.Proofs.YtdkmkcgghhncdaaW.PrintWords Go.Proofs.YtdkmkcgghhncdaaW.PrintLast Go.Proofs.YtdkmkcgghhncdaaW.PrintMore
attribute [local go_sem] max2_int min2_int max_two min_two max_three min_three max_four min_four   -- for this text's walks alone
set_option linter.unusedVariables false
set_option linter.unusedSimpArgs false

/-! ### slices_Contains_int_int: function 33 -/
def slices_Contains_int_int.f (k : Nat) (l0 : List Int) (a1 : Int) : Option (Bool) := (slices_Index_int_int.f k l0 a1).bind fun t193 => (some (decide (t193 ≥ 0)))
theorem slices_Contains_int_int.mono : ∀ a0 a1 k, LeO (slices_Contains_int_int.f k a0 a1) (slices_Contains_int_int.f (k + 1) a0 a1) := by
 intro a0 a1 k
 unfold slices_Contains_int_int.f
 repeat' first
   | (with_reducible exact slices_Index_int_int.mono _ _ _)
   | (with_reducible exact LeO.refl _)
   | (with_reducible exact LeO.none _)
   | (with_reducible refine LeO.ite ?_ ?_)
   | (with_reducible refine LeO.bind ?_ (fun _ => ?_))
   | exact slices_Index_int_int.mono _ _ _
   | exact LeO.none _
   | refine LeO.ite ?_ ?_
   | refine LeO.bind ?_ (fun _ => ?_)
set_option maxHeartbeats 8000000 in
set_option maxRecDepth 100000 in
theorem slices_Contains_int_int.calls (k : Nat) (A0 : Option Addr) (c0 : Nat) (l0 : List Int) (a1 : Int) (r : Bool) (w : World) (hr0 : Kd.C (Kd.int .i64) w A0 l0.length l0) (hc0 : l0.length ≤ c0) (h : slices_Contains_int_int.f k l0 a1 = some r) :
  Calls Try.prog 33 #[.slice A0 l0.length c0, .int .i64 a1] w fun e w' => e = .returned (.bool r) ∧ Drawn0 w w' := by
 have HR0 := Aside0.mk hr0
 have HC0 := Aside0.mk hc0
 clear hr0 hc0
 have H : ((slices_Index_int_int.f k l0 a1).bind fun t193 => (some (decide (t193 ≥ 0)))) = some r := h
 clear h
 replace H := Option.bind_eq_some_iff.mp H
 obtain ⟨t193, A30, H⟩ := H
 replace H : (some (decide (t193 ≥ 0))) = some r := H
 have A3 := Aside0.mk A30
 clear A30
 obtain rfl := Option.some.inj H
 go_enter Try.func33, Try.ntmps33
 go_wp2_with (first | ((with_reducible refine gate_callee (f := 44) rfl ?_); refine goesL_ (some 7) rfl rfl Try.func44 (by kernel_rfl) rfl #[.slice A0 l0.length c0, .int .i64 a1] rfl (by (try simp only [List.map_toArray, List.map_cons, List.map_nil]); first | done | rfl | (simp only [List.length_drop, List.length_take]; rfl)) ?_; (with_reducible refine (slices_Index_int_int.calls k _ _ l0 a1 t193 _ ?side1 ?side2 A3.out).mono ?_); (case side1 => repeat (first | exact HR0.out | (with_reducible refine Kd.C_alloc ?_ _) | (with_reducible refine Kd.C_drewN ?_ _) | (with_reducible refine Kd.C_drew ?_))); (case side2 => exact HC0.out); rintro e w' ⟨rfl, ⟨nd, rfl⟩⟩; refine ⟨_, rfl, ?_⟩))
 go_ret
 exact ⟨by first | rfl | (simp; done) | (simp [*]; done), by repeat (first | exact Drawn0.refl _ | apply Drawn0.step)⟩

end Go.Proofs.Ytdkmkcgghhncdaa.Q
namespace Go.Proofs.Ytdkmkcgghhncdaa.Q
open Go.RowKit Go.Proofs.YtdkmkcgghhncdaaW.PrintWords Go.Proofs.YtdkmkcgghhncdaaW.PrintLast Go.Proofs.YtdkmkcgghhncdaaW.PrintMore
attribute [local go_sem] max2_int min2_int max_two min_two max_three min_three max_four min_four   -- for this text's walks alone
set_option linter.unusedVariables false
set_option linter.unusedSimpArgs false

/-! ### impl_FirstRow: function 8 (proved by hand) -/
mutual
/-- The first whole row behind one begun that is told. -/
def impl_table_rows.f (p : List Int → Option Bool) : Nat → List Int → List Int → Option (Option (List Int))
 | 0, _, _ => none
 | k + 1, t, b => if (b.length : Int) = (t.length : Int) then ((p b).bind fun q => some (if q = true then some b else none)) else impl_table_rows.l0 p k t b 0
def impl_table_rows.l0 (p : List Int → Option Bool) : Nat → List Int → List Int → Int → Option (Option (List Int))
 | 0, _, _, _ => none
 | k + 1, t, b, a => if a < (t.length : Int) then ((slices_Contains_int_int.f k b a).bind fun c => if c = true then impl_table_rows.l0 p k t b (wrap64 (a + 1)) else (if (0 : Int) < (b.length : Int) then (if 0 ≤ wrap64 ((b.length : Int) - 1) then (if wrap64 ((b.length : Int) - 1) < (b.length : Int) then ((impl_table_has.f t (rd b (wrap64 ((b.length : Int) - 1))) a).bind fun h => if h = true then ((slices_Clone_int_int.f b).bind fun o => if o.length < 17592186044416 then ((impl_table_rows.f p k t (o ++ [a])).bind fun r => if r.isSome = true then some r else impl_table_rows.l0 p k t b (wrap64 (a + 1))) else none) else impl_table_rows.l0 p k t b (wrap64 (a + 1))) else none) else none) else ((slices_Clone_int_int.f b).bind fun o => if o.length < 17592186044416 then ((impl_table_rows.f p k t (o ++ [a])).bind fun r => if r.isSome = true then some r else impl_table_rows.l0 p k t b (wrap64 (a + 1))) else none))) else some none
end
theorem impl_table_rows.mono_l (p : List Int → Option Bool) : ∀ k, (∀ y0 y1, LeO (impl_table_rows.f p k y0 y1) (impl_table_rows.f p (k + 1) y0 y1)) ∧ (∀ y0 y1 y2, LeO (impl_table_rows.l0 p k y0 y1 y2) (impl_table_rows.l0 p (k + 1) y0 y1 y2))
 | 0 => ⟨fun _ _ r h => by simp [impl_table_rows.f] at h, fun _ _ _ r h => by simp [impl_table_rows.l0] at h⟩
 | k + 1 => by
  obtain ⟨ih0, ih1⟩ := impl_table_rows.mono_l p k
  refine ⟨?_, ?_⟩
  ·intro y0 y1
   unfold impl_table_rows.f
   exact LeO.ite (LeO.refl _) (ih1 _ _ _)
  ·intro y0 y1 y2
   unfold impl_table_rows.l0
   have g : LeO ((slices_Clone_int_int.f y1).bind fun o => if o.length < 17592186044416 then ((impl_table_rows.f p k y0 (o ++ [y2])).bind fun r => if r.isSome = true then some r else impl_table_rows.l0 p k y0 y1 (wrap64 (y2 + 1))) else none) ((slices_Clone_int_int.f y1).bind fun o => if o.length < 17592186044416 then ((impl_table_rows.f p (k + 1) y0 (o ++ [y2])).bind fun r => if r.isSome = true then some r else impl_table_rows.l0 p (k + 1) y0 y1 (wrap64 (y2 + 1))) else none) := LeO.bind (LeO.refl _) (fun _ => LeO.ite (LeO.bind (ih0 _ _) (fun _ => LeO.ite (LeO.refl _) (ih1 _ _ _))) (LeO.refl _))
   exact LeO.ite (LeO.bind (slices_Contains_int_int.mono _ _ _) (fun _ => LeO.ite (ih1 _ _ _) (LeO.ite (LeO.ite (LeO.ite (LeO.bind (LeO.refl _) (fun _ => LeO.ite g (ih1 _ _ _))) (LeO.refl _)) (LeO.refl _)) g))) (LeO.refl _)
theorem goesVL_ {P : Program} {Q : Exit → Act → World → Prop} {ops : Array Oper} {rest : List Oper} {oi : Oper} {a : Act} {w : World} (N : Option Tmp) (hd : oi.dst = N) (hg : oi.guard = none) {f : FuncId} {fn : Func} {as_ : Array Operand} {ts : Array TypeId} {x : Operand} {first cap : Array Value} (hf : P.funcs[f]? = some fn) (hname : (fn.name == "runtime.NumGoroutine") = false) (hb : fn.body.isSome = true) (args : Array Value)
  (hop : oi.op = .call { callee := .value x, args := as_, argTypes := ts }) (hx : a.eval x = .func (.func f) first cap) (hargs : first ++ as_.map a.eval ++ cap = args)
  (h : Calls P f args w fun e w' => ∃ v, e = .returned v ∧ wpList P ops Q rest (a.put N v) w') : wpList P ops Q (oi :: rest) a w := by
 refine wpList_plain hg fun K hK => ?_
 have he := enters_ hf hname hb args w
 have hrun : (execOp a.eval oi).run P w = .ok (.enter f args) w := by
  unfold execOp
  simp [hop, resolve, Deferred.ofValue, invoke, hx, hargs, he]
 unfold Oper.wp
 rw [hrun, Oper.upon_enter]
 refine h.mono fun e w'' hh => ?_
 obtain ⟨v, rfl, hk⟩ := hh
 subst hd
 exact hK _ _ hk
def impl_table_rows.Post (gf : Nat) (w0 w : World) (r : Option (List Int)) (e : Ending) (w' : World) : Prop := e = .returned (.bool r.isNone) ∧ ∃ Af cf, w'.heap[gf]? = some (.cells #[.slice Af (r.getD []).length cf] 26 (0, 0)) ∧ Kd.R (Kd.int .i64) 3 w' w0.heap.size (fun _ => True) (.slice Af (r.getD []).length cf) (r.getD []) ∧ (r = none → Af = none ∧ cf = 0) ∧ Below w0.heap.size w0 w' ∧ Kept w w' (fun k_ => k_ = gf)
set_option maxHeartbeats 16000000 in
set_option maxRecDepth 100000 in
theorem impl_table_rows.calls (p : List Int → Option Bool) (Inv : World → Prop) (g : FuncId) (fn : Func) (lb : Array Value) (gf : Nat) (w0 : World) (hfn : Try.prog.funcs[g]? = some fn) (hnm : (fn.name == "runtime.NumGoroutine") = false) (hbd : fn.body.isSome = true) (hik : ∀ W W', Inv W → Kept W W' (fun k_ => k_ = gf) → Inv W')
  (hE : (∀ (W : World) (A : Option Addr) (c : Nat) (b : List Int) (q : Bool), p b = some q → Inv W → Below w0.heap.size w0 W → W.heap[gf]? = some (.cells #[.slice none 0 0] 26 (0, 0)) → Kd.R (Kd.int .i64) 3 W w0.heap.size (fun _ => True) (.slice A b.length c) b → Calls Try.prog g (#[.slice A b.length c] ++ lb) W fun e w' => e = .returned (.bool (!q)) ∧ w'.heap[gf]? = some (.cells #[if q = true then .slice A b.length c else .slice none 0 0] 26 (0, 0)) ∧ Below w0.heap.size w0 w' ∧ Kept W w' (fun k_ => k_ = gf))) :
  ∀ (k : Nat) (At : Option Addr) (ct : Nat) (t : List Int) (Ab : Option Addr) (cb : Nat) (b : List Int) (r : Option (List Int)) (w : World), Below w0.heap.size w0 w → w.heap[gf]? = some (.cells #[.slice none 0 0] 26 (0, 0)) → Kd.R (Kd.int .i64) 3 w w0.heap.size (fun _ => True) (.slice Ab b.length cb) b → Kd.F (Kd.int .u16) w (fun k_ => k_ ≠ gf) At t.length t → t.length ≤ ct → Inv w → impl_table_rows.f p k t b = some r →
  Calls Try.prog 22 #[.slice At t.length ct, .slice Ab b.length cb, .func (.func g) #[] lb] w fun e w' => impl_table_rows.Post gf w0 w r e w' := by
 have HFN := Aside0.mk hfn
 have HNM := Aside0.mk hnm
 have HBD := Aside0.mk hbd
 have HIK := Aside0.mk hik
 have HE := Aside0.mk hE
 clear hfn hnm hbd hik hE
 intro k
 induction k using Nat.strongRecOn with
 | ind k IH0 =>
 intro At ct t Ab cb b r w hB hbf hro hFt hct hI H
 have IH := Aside0.mk IH0
 have HB := Aside0.mk hB
 have BF := Aside0.mk hbf
 have HR := Aside0.mk hro
 have HFT := Aside0.mk hFt
 have HCT := Aside0.mk hct
 have HI := Aside0.mk hI
 have HCB := Aside0.mk (Kd.R_reads' hro).2.1
 have HK := Aside0.mk (Kept.refl w (fun k_ => k_ = gf))
 clear IH0 hB hbf hro hFt hct hI
 rcases k with _ | k1
 ·simp [impl_table_rows.f] at H
 simp only [impl_table_rows.f] at H
 by_cases hn : (b.length : Int) = (t.length : Int)
 ·rw [if_pos hn] at H
  have hn1 : decide ((b.length : Int) = (t.length : Int)) = true := decide_eq_true hn
  have hn2 : ((b.length : Int) == (t.length : Int)) = true := by simp [hn]
  clear hn
  obtain ⟨q, hq, H⟩ := Option.bind_eq_some_iff.1 H
  have A1 := Aside0.mk hq
  clear hq
  cases q with
  | true =>
   obtain rfl := Option.some.inj H
   go_enter Try.func22, Try.ntmps22
   go_wp2_with (((with_reducible refine gate_dst (N := 15) rfl ?_); refine goesVL_ (some 15) rfl rfl HFN.out HNM.out HBD.out (#[.slice Ab b.length cb] ++ lb) rfl rfl (by simp [Act.eval]) ?_; refine (HE.out _ Ab cb b true A1.out (HIK.out _ _ HI.out (by (with_reducible repeat (first | refine Kept.alloc ?_ _ | refine Kept.drewN ?_ _ | refine Kept.drew ?_)); exact HK.out)) (by repeat (first | (with_reducible first | exact HB.out | apply below_alloc | apply pw_below_drewN | apply below_drew1) | exact HB.out)) (by (with_reducible repeat (first | refine blk_drewN ?_ _ | refine blk_drew ?_ | refine blk_alloc ?_ _)); exact BF.out) (by (with_reducible repeat (first | apply Kd.R_alloc | apply Kd.R_drewN | apply Kd.R_drew)); exact HR.out)).mono ?_; rintro e w2 ⟨rfl, hbf2, hB2, hk2⟩; refine ⟨_, rfl, ?_⟩; have BF2 := Aside0.mk (hbf2); have HB2 := Aside0.mk (hB2); have HK2 := Aside0.mk (Kept.then_ (S := fun k_ => k_ = gf) (by (with_reducible repeat (first | refine Kept.alloc ?_ _ | refine Kept.drewN ?_ _ | refine Kept.drew ?_)); exact HK.out) hk2 (fun k_ h_ => .inl h_)); have HR2 := Aside0.mk (Kd.R_mono (ok' := fun _ => True) (Kd.R_kept (ok := fun k_ => True ∧ k_ ≠ gf) (Kd.R_types (by (with_reducible repeat (first | apply Kd.R_alloc | apply Kd.R_drewN | apply Kd.R_drew)); exact HR.out) (by (with_reducible repeat (first | refine blk_drewN ?_ _ | refine blk_drew ?_ | refine blk_alloc ?_ _)); exact BF.out) (by decide)) hk2 (fun _ h_ e_ => h_.2 e_)) (fun _ _ => trivial)); clear hbf2 hB2 hk2))
   go_ret
   exact ⟨rfl, Ab, cb, (by (with_reducible repeat (first | refine blk_drewN ?_ _ | refine blk_drew ?_ | refine blk_alloc ?_ _)); exact BF2.out), (by (with_reducible repeat (first | apply Kd.R_alloc | apply Kd.R_drewN | apply Kd.R_drew)); exact HR2.out), fun e_ => (by cases e_), by repeat (first | (with_reducible first | exact HB2.out | apply below_alloc | apply pw_below_drewN | apply below_drew1) | exact HB2.out), (by (with_reducible repeat (first | refine Kept.alloc ?_ _ | refine Kept.drewN ?_ _ | refine Kept.drew ?_)); exact HK2.out)⟩
  | false =>
   obtain rfl := Option.some.inj H
   go_enter Try.func22, Try.ntmps22
   go_wp2_with (((with_reducible refine gate_dst (N := 15) rfl ?_); refine goesVL_ (some 15) rfl rfl HFN.out HNM.out HBD.out (#[.slice Ab b.length cb] ++ lb) rfl rfl (by simp [Act.eval]) ?_; refine (HE.out _ Ab cb b false A1.out (HIK.out _ _ HI.out (by (with_reducible repeat (first | refine Kept.alloc ?_ _ | refine Kept.drewN ?_ _ | refine Kept.drew ?_)); exact HK.out)) (by repeat (first | (with_reducible first | exact HB.out | apply below_alloc | apply pw_below_drewN | apply below_drew1) | exact HB.out)) (by (with_reducible repeat (first | refine blk_drewN ?_ _ | refine blk_drew ?_ | refine blk_alloc ?_ _)); exact BF.out) (by (with_reducible repeat (first | apply Kd.R_alloc | apply Kd.R_drewN | apply Kd.R_drew)); exact HR.out)).mono ?_; rintro e w2 ⟨rfl, hbf2, hB2, hk2⟩; refine ⟨_, rfl, ?_⟩; have BF2 := Aside0.mk (hbf2); have HB2 := Aside0.mk (hB2); have HK2 := Aside0.mk (Kept.then_ (S := fun k_ => k_ = gf) (by (with_reducible repeat (first | refine Kept.alloc ?_ _ | refine Kept.drewN ?_ _ | refine Kept.drew ?_)); exact HK.out) hk2 (fun k_ h_ => .inl h_)); have HR2 := Aside0.mk (Kd.R_mono (ok' := fun _ => True) (Kd.R_kept (ok := fun k_ => True ∧ k_ ≠ gf) (Kd.R_types (by (with_reducible repeat (first | apply Kd.R_alloc | apply Kd.R_drewN | apply Kd.R_drew)); exact HR.out) (by (with_reducible repeat (first | refine blk_drewN ?_ _ | refine blk_drew ?_ | refine blk_alloc ?_ _)); exact BF.out) (by decide)) hk2 (fun _ h_ e_ => h_.2 e_)) (fun _ _ => trivial)); clear hbf2 hB2 hk2))
   go_ret
   exact ⟨rfl, none, 0, (by (with_reducible repeat (first | refine blk_drewN ?_ _ | refine blk_drew ?_ | refine blk_alloc ?_ _)); exact BF2.out), Kd.R_nil _ _ _ _ _, fun _ => ⟨rfl, rfl⟩, by repeat (first | (with_reducible first | exact HB2.out | apply below_alloc | apply pw_below_drewN | apply below_drew1) | exact HB2.out), (by (with_reducible repeat (first | refine Kept.alloc ?_ _ | refine Kept.drewN ?_ _ | refine Kept.drew ?_)); exact HK2.out)⟩
 ·rw [if_neg hn] at H
  have hn1 : decide ((b.length : Int) = (t.length : Int)) = false := decide_eq_false hn
  have hn2 : ((b.length : Int) == (t.length : Int)) = false := by simpa using hn
  clear hn
  have H' := Aside0.mk H
  clear H
  go_enter Try.func22, Try.ntmps22
  go_wp2
  go_loopg [18] k1 (fun kq v18 w' => ∃ (a : Int), v18 = .int .i64 a ∧ Aside0 (impl_table_rows.l0 p kq t b a = some r) ∧ Aside0 (kq ≤ k1) ∧ Aside0 (w'.heap[gf]? = some (.cells #[.slice none 0 0] 26 (0, 0))) ∧ Aside0 (Kd.R (Kd.int .i64) 3 w' w0.heap.size (fun _ => True) (.slice Ab b.length cb) b) ∧ Aside0 (Below w0.heap.size w0 w') ∧ Aside0 (Kept w w' (fun k_ => k_ = gf)))
  case atStart => exact ⟨0, (by first | rfl | (simp; done) | (simp [*]; done)), H', ⟨by exact Nat.le_refl _⟩, ⟨by (with_reducible repeat (first | refine blk_drewN ?_ _ | refine blk_drew ?_ | refine blk_alloc ?_ _)); exact BF.out⟩, ⟨by (with_reducible repeat (first | apply Kd.R_alloc | apply Kd.R_drewN | apply Kd.R_drew)); exact HR.out⟩, ⟨by repeat (first | (with_reducible first | exact HB.out | apply below_alloc | apply pw_below_drewN | apply below_drew1) | exact HB.out)⟩, ⟨by (with_reducible repeat (first | refine Kept.alloc ?_ _ | refine Kept.drewN ?_ _ | refine Kept.drew ?_)); exact HK.out⟩⟩
  case round =>
   clear H' BF HR HB HK
   obtain ⟨a, rfl, HA, HKk, BF, HR, HB, HK⟩ := hrel
   have H := HA.out
   clear HA
   have HTR := Aside0.mk (Kd.F_now (Kd.F_kept HFT.out HK.out (fun _ hk hs => hk hs)))
   rcases gk with _ | k2
   ·simp [impl_table_rows.l0] at H
   simp only [impl_table_rows.l0] at H
   by_cases q0 : a < (t.length : Int)
   rotate_left
   ·rw [if_neg q0] at H
    have q01 : decide (a < (t.length : Int)) = false := decide_eq_false q0
    clear q0
    obtain rfl := Option.some.inj H
    go_wp2
    go_ret
    exact ⟨rfl, none, 0, (by (with_reducible repeat (first | refine blk_drewN ?_ _ | refine blk_drew ?_ | refine blk_alloc ?_ _)); exact BF.out), Kd.R_nil _ _ _ _ _, fun _ => ⟨rfl, rfl⟩, by repeat (first | (with_reducible first | exact HB.out | apply below_alloc | apply pw_below_drewN | apply below_drew1) | exact HB.out), (by (with_reducible repeat (first | refine Kept.alloc ?_ _ | refine Kept.drewN ?_ _ | refine Kept.drew ?_)); exact HK.out)⟩
   rw [if_pos q0] at H
   have q01 : decide (a < (t.length : Int)) = true := decide_eq_true q0
   clear q0
   obtain ⟨c, hc, H⟩ := Option.bind_eq_some_iff.1 H
   have A1 := Aside0.mk hc
   clear hc
   cases c with
   | true =>
    rw [if_pos rfl] at H
    have H' := Aside0.mk H
    clear H
    go_wp2_with ((go_at_call 33; (with_reducible refine (slices_Contains_int_int.calls k2 Ab cb b a true _ ?k1 HCB.out A1.out).mono ?_); (case k1 => repeat (first | exact (Kd.R_reads' HR.out).2.2 | (with_reducible refine Kd.C_alloc ?_ _) | (with_reducible refine Kd.C_drewN ?_ _) | (with_reducible refine Kd.C_drew ?_))); rintro e w' ⟨rfl, ⟨nd, rfl⟩⟩))
    go_roundg k2
    case measure => have := HKk.out; omega
    case rel => exact ⟨wrap64 (a + 1), (by first | rfl | (simp; done) | (simp [*]; done)), H', ⟨by have := HKk.out; omega⟩, ⟨by (with_reducible repeat (first | refine blk_drewN ?_ _ | refine blk_drew ?_ | refine blk_alloc ?_ _)); exact BF.out⟩, ⟨by (with_reducible repeat (first | apply Kd.R_alloc | apply Kd.R_drewN | apply Kd.R_drew)); exact HR.out⟩, ⟨by repeat (first | (with_reducible first | exact HB.out | apply below_alloc | apply pw_below_drewN | apply below_drew1) | exact HB.out)⟩, ⟨by (with_reducible repeat (first | refine Kept.alloc ?_ _ | refine Kept.drewN ?_ _ | refine Kept.drew ?_)); exact HK.out⟩⟩
   | false =>
    rw [if_neg (by simp)] at H
    by_cases hb0 : (0 : Int) < (b.length : Int)
    ·rw [if_pos hb0] at H
     have hb1 : decide ((b.length : Int) > 0) = true := decide_eq_true hb0
     have hb2 : (0 < b.length) = True := eq_true (by omega)
     have hb3 : decide (0 < b.length) = true := decide_eq_true (of_eq_true hb2)
     by_cases hs0 : 0 ≤ wrap64 ((b.length : Int) - 1)
     rotate_left
     ·rw [if_neg hs0] at H; cases H
     rw [if_pos hs0] at H
     by_cases hs1 : wrap64 ((b.length : Int) - 1) < (b.length : Int)
     rotate_left
     ·rw [if_neg hs1] at H; cases H
     rw [if_pos hs1] at H
     obtain ⟨ab_, eA_, hlst⟩ := Kd.at_int (Kd.R_reads' HR.out).2.2 _ hs0 hs1
     cases eA_
     replace hb0 := eq_true hb0
     replace hs0 := eq_true hs0
     replace hs1 := eq_true hs1
     obtain ⟨h, hh, H⟩ := Option.bind_eq_some_iff.1 H
     have A2 := Aside0.mk hh
     clear hh
     cases h with
     | false =>
      rw [if_neg (by simp)] at H
      have H' := Aside0.mk H
      clear H
      go_wp2_with (first | (go_at_call 33; (with_reducible refine (slices_Contains_int_int.calls k2 (some ab_) cb b a false _ ?k1 HCB.out A1.out).mono ?_); (case k1 => repeat (first | exact (Kd.R_reads' HR.out).2.2 | (with_reducible refine Kd.C_alloc ?_ _) | (with_reducible refine Kd.C_drewN ?_ _) | (with_reducible refine Kd.C_drew ?_))); rintro e w' ⟨rfl, ⟨nd, rfl⟩⟩) | (go_at_call 34; (with_reducible refine (impl_table_has.calls At ct t (rd b (wrap64 ((b.length : Int) - 1))) a false _ ?k2 HCT.out A2.out).mono ?_); (case k2 => repeat (first | exact HTR.out | (with_reducible refine Kd.C_alloc ?_ _) | (with_reducible refine Kd.C_drewN ?_ _) | (with_reducible refine Kd.C_drew ?_))); rintro e w' ⟨rfl, ⟨nd2, rfl⟩⟩))
      go_roundg k2
      case measure => have := HKk.out; omega
      case rel => exact ⟨wrap64 (a + 1), (by first | rfl | (simp; done) | (simp [*]; done)), H', ⟨by have := HKk.out; omega⟩, ⟨by (with_reducible repeat (first | refine blk_drewN ?_ _ | refine blk_drew ?_ | refine blk_alloc ?_ _)); exact BF.out⟩, ⟨by (with_reducible repeat (first | apply Kd.R_alloc | apply Kd.R_drewN | apply Kd.R_drew)); exact HR.out⟩, ⟨by repeat (first | (with_reducible first | exact HB.out | apply below_alloc | apply pw_below_drewN | apply below_drew1) | exact HB.out)⟩, ⟨by (with_reducible repeat (first | refine Kept.alloc ?_ _ | refine Kept.drewN ?_ _ | refine Kept.drew ?_)); exact HK.out⟩⟩
     | true =>
      rw [if_pos rfl] at H
      obtain ⟨o, ho, H⟩ := Option.bind_eq_some_iff.1 H
      have A3 := Aside0.mk ho
      clear ho
      by_cases hl_ : o.length < 17592186044416
      rotate_left
      ·rw [if_neg hl_] at H; cases H
      rw [if_pos hl_] at H
      have HL := Aside0.mk hl_
      clear hl_
      obtain ⟨r_, hq, H⟩ := Option.bind_eq_some_iff.1 H
      obtain ⟨y, hy⟩ : ∃ y_ : List Int, y_ = o ++ [a] := ⟨_, rfl⟩
      rw [← hy] at hq
      have Ny := Aside0.mk hy
      have A4 := Aside0.mk hq
      clear hq hy
      cases r_ with
      | some x =>
       rw [if_pos (show (some x).isSome = true from rfl)] at H
       obtain rfl := Option.some.inj H
       go_wp2_with (first | (go_at_call 33; (with_reducible refine (slices_Contains_int_int.calls k2 (some ab_) cb b a false _ ?k1 HCB.out A1.out).mono ?_); (case k1 => repeat (first | exact (Kd.R_reads' HR.out).2.2 | (with_reducible refine Kd.C_alloc ?_ _) | (with_reducible refine Kd.C_drewN ?_ _) | (with_reducible refine Kd.C_drew ?_))); rintro e w' ⟨rfl, ⟨nd, rfl⟩⟩) | (go_at_call 34; (with_reducible refine (impl_table_has.calls At ct t (rd b (wrap64 ((b.length : Int) - 1))) a true _ ?k2 HCT.out A2.out).mono ?_); (case k2 => repeat (first | exact HTR.out | (with_reducible refine Kd.C_alloc ?_ _) | (with_reducible refine Kd.C_drewN ?_ _) | (with_reducible refine Kd.C_drew ?_))); rintro e w' ⟨rfl, ⟨nd2, rfl⟩⟩) | (go_at_call 35; (with_reducible refine (slices_Clone_int_int.calls (some ab_) cb b o _ ?k3 HCB.out A3.out).mono ?_); (case k3 => repeat (first | exact (Kd.R_reads' HR.out).2.2 | (with_reducible refine Kd.C_alloc ?_ _) | (with_reducible refine Kd.C_drewN ?_ _) | (with_reducible refine Kd.C_drew ?_))); rintro e w2 ⟨v2, rfl, ho0, hb⟩; have BF2 := Aside0.mk (blk_below (g := gf) (o := (.cells #[.slice none 0 0] 26 (0, 0))) (by (with_reducible repeat (first | refine blk_drewN ?_ _ | refine blk_drew ?_ | refine blk_alloc ?_ _)); exact BF.out) hb); have HS2 := Aside0.mk (Kd.R_lower ho0 (below_size (by repeat (first | (with_reducible first | exact HB.out | apply below_alloc | apply pw_below_drewN | apply below_drew1) | exact HB.out)))); have HB2 := Aside0.mk ((below_step (by repeat (first | (with_reducible first | exact HB.out | apply below_alloc | apply pw_below_drewN | apply below_drew1) | exact HB.out)) hb : Below w0.heap.size w0 w2)); have HK2 := Aside0.mk (Kept.below (by (with_reducible repeat (first | refine Kept.alloc ?_ _ | refine Kept.drewN ?_ _ | refine Kept.drew ?_)); exact HK.out) hb); have HR2 := Aside0.mk (Kd.R_elder' (by (with_reducible repeat (first | apply Kd.R_alloc | apply Kd.R_drewN | apply Kd.R_drew)); exact HR.out) (Kd.R_base ho0) hb); have HN2 := Aside0.mk (fun k_ (e_ : v2.ownBlock = some k_) => Nat.le_trans (show Kept w _ (fun k_ => k_ = gf) from (by (with_reducible repeat (first | refine Kept.alloc ?_ _ | refine Kept.drewN ?_ _ | refine Kept.drew ?_)); exact HK.out)).1 (Kd.R_base ho0 k_ e_)); obtain ⟨Ao, co, eo_⟩ := Kd.R_slice ho0; subst eo_; clear ho0 hb) | ((with_reducible refine gate_builtin (b := .append) (xs := #[.tmp 43, .tmp 45]) rfl ?_); at_builtin; refine Kd.R_append (Kd.int .i64) (w0 := w0) w0.heap.size rfl (.tmp 43) (.tmp 45) 26 3 (.int .i64 0) 8 rfl Try.underlying26 info3 rfl (by decide) (by omega) (.slice Ao o.length co) o a [.int .i64 a] (fun _ => True) (fun _ => False) rfl rfl ?aP (fun _ hk => hk.elim) ?aF ?aO ?aB ?aS ?aL ?_; (case aP => exact rfl); (case aB => exact (by repeat (first | (with_reducible first | exact HB2.out | apply below_alloc | apply pw_below_drewN | apply below_drew1) | exact HB2.out))); (case aF => exact (fun _ _ => trivial)); (case aO => exact (by (with_reducible repeat (first | apply Kd.R_alloc | apply Kd.R_drewN | apply Kd.R_drew)); exact HS2.out)); (case aS => exact (below_size (by repeat (first | (with_reducible first | exact HB2.out | apply below_alloc | apply pw_below_drewN | apply below_drew1) | exact HB2.out)))); (case aL => have := HL.out; omega); intro v3 w3 ho hb hg hat; rw [← Ny.out] at ho; have HB3 := Aside0.mk (hb); have HS3 := Aside0.mk (ho); have BF3 := Aside0.mk (blk_grown (by (with_reducible repeat (first | refine blk_drewN ?_ _ | refine blk_drew ?_ | refine blk_alloc ?_ _)); exact BF2.out) hg (Kd.R_ne HS2.out BF2.out (by decide))); have HR3 := Aside0.mk (Kd.R_mono (ok' := fun _ => True) (Kd.R_grown (ok := fun k_ => True ∧ some k_ ≠ (Value.slice Ao o.length co).ownBlock) (by (with_reducible repeat (first | apply Kd.R_alloc | apply Kd.R_drewN | apply Kd.R_drew)); exact HR2.out) hg (fun k_ hk_ => hk_.2)) (fun _ _ => trivial)); have HK3 := Aside0.mk (Kept.of_grown hg (by (with_reducible repeat (first | refine Kept.alloc ?_ _ | refine Kept.drewN ?_ _ | refine Kept.drew ?_)); exact HK2.out) (fun k_ e_ => .inr (HN2.out k_ e_))); obtain ⟨A3_, c3_, e3_⟩ := Kd.R_slice HS3.out; subst e3_; clear ho hb hg hat) | (go_at_call 22; (with_reducible refine (IH.out k2 (by have := HKk.out; omega) At ct t A3_ c3_ y _ _ ?sB ?sF ?sR ?sT HCT.out ?sI A4.out).mono ?_); (case sB => exact (by repeat (first | (with_reducible first | exact HB3.out | apply below_alloc | apply pw_below_drewN | apply below_drew1) | exact HB3.out))); (case sF => exact (by (with_reducible repeat (first | refine blk_drewN ?_ _ | refine blk_drew ?_ | refine blk_alloc ?_ _)); exact BF3.out)); (case sR => exact (by (with_reducible repeat (first | apply Kd.R_alloc | apply Kd.R_drewN | apply Kd.R_drew)); exact HS3.out)); (case sT => exact Kd.F_kept HFT.out (by (with_reducible repeat (first | refine Kept.alloc ?_ _ | refine Kept.drewN ?_ _ | refine Kept.drew ?_)); exact HK3.out) (fun _ hk hs => hk hs)); (case sI => exact HIK.out _ _ HI.out (by (with_reducible repeat (first | refine Kept.alloc ?_ _ | refine Kept.drewN ?_ _ | refine Kept.drew ?_)); exact HK3.out)); rintro e w4 ⟨rfl, Af4, cf4, hbf4, hro4, hn4, hB4, hk4⟩; have BF4 := Aside0.mk (hbf4); have HO4 := Aside0.mk (hro4); have HN4 := Aside0.mk (hn4); have HB4 := Aside0.mk (hB4); have HK4 := Aside0.mk (Kept.then_ (S := fun k_ => k_ = gf) (by (with_reducible repeat (first | refine Kept.alloc ?_ _ | refine Kept.drewN ?_ _ | refine Kept.drew ?_)); exact HK3.out) hk4 (fun k_ h_ => .inl h_)); have HR4 := Aside0.mk (Kd.R_mono (ok' := fun _ => True) (Kd.R_kept (ok := fun k_ => True ∧ k_ ≠ gf) (Kd.R_types (by (with_reducible repeat (first | apply Kd.R_alloc | apply Kd.R_drewN | apply Kd.R_drew)); exact HR3.out) (by (with_reducible repeat (first | refine blk_drewN ?_ _ | refine blk_drew ?_ | refine blk_alloc ?_ _)); exact BF3.out) (by decide)) hk4 (fun _ h_ e_ => h_.2 e_)) (fun _ _ => trivial)); clear hbf4 hro4 hn4 hB4 hk4))
       go_ret
       exact ⟨rfl, Af4, cf4, (by (with_reducible repeat (first | refine blk_drewN ?_ _ | refine blk_drew ?_ | refine blk_alloc ?_ _)); exact BF4.out), (by (with_reducible repeat (first | apply Kd.R_alloc | apply Kd.R_drewN | apply Kd.R_drew)); exact HO4.out), fun e_ => HN4.out e_, by repeat (first | (with_reducible first | exact HB4.out | apply below_alloc | apply pw_below_drewN | apply below_drew1) | exact HB4.out), (by (with_reducible repeat (first | refine Kept.alloc ?_ _ | refine Kept.drewN ?_ _ | refine Kept.drew ?_)); exact HK4.out)⟩
      | none =>
       rw [if_neg (by simp)] at H
       have H' := Aside0.mk H
       clear H
       go_wp2_with (first | (go_at_call 33; (with_reducible refine (slices_Contains_int_int.calls k2 (some ab_) cb b a false _ ?k1 HCB.out A1.out).mono ?_); (case k1 => repeat (first | exact (Kd.R_reads' HR.out).2.2 | (with_reducible refine Kd.C_alloc ?_ _) | (with_reducible refine Kd.C_drewN ?_ _) | (with_reducible refine Kd.C_drew ?_))); rintro e w' ⟨rfl, ⟨nd, rfl⟩⟩) | (go_at_call 34; (with_reducible refine (impl_table_has.calls At ct t (rd b (wrap64 ((b.length : Int) - 1))) a true _ ?k2 HCT.out A2.out).mono ?_); (case k2 => repeat (first | exact HTR.out | (with_reducible refine Kd.C_alloc ?_ _) | (with_reducible refine Kd.C_drewN ?_ _) | (with_reducible refine Kd.C_drew ?_))); rintro e w' ⟨rfl, ⟨nd2, rfl⟩⟩) | (go_at_call 35; (with_reducible refine (slices_Clone_int_int.calls (some ab_) cb b o _ ?k3 HCB.out A3.out).mono ?_); (case k3 => repeat (first | exact (Kd.R_reads' HR.out).2.2 | (with_reducible refine Kd.C_alloc ?_ _) | (with_reducible refine Kd.C_drewN ?_ _) | (with_reducible refine Kd.C_drew ?_))); rintro e w2 ⟨v2, rfl, ho0, hb⟩; have BF2 := Aside0.mk (blk_below (g := gf) (o := (.cells #[.slice none 0 0] 26 (0, 0))) (by (with_reducible repeat (first | refine blk_drewN ?_ _ | refine blk_drew ?_ | refine blk_alloc ?_ _)); exact BF.out) hb); have HS2 := Aside0.mk (Kd.R_lower ho0 (below_size (by repeat (first | (with_reducible first | exact HB.out | apply below_alloc | apply pw_below_drewN | apply below_drew1) | exact HB.out)))); have HB2 := Aside0.mk ((below_step (by repeat (first | (with_reducible first | exact HB.out | apply below_alloc | apply pw_below_drewN | apply below_drew1) | exact HB.out)) hb : Below w0.heap.size w0 w2)); have HK2 := Aside0.mk (Kept.below (by (with_reducible repeat (first | refine Kept.alloc ?_ _ | refine Kept.drewN ?_ _ | refine Kept.drew ?_)); exact HK.out) hb); have HR2 := Aside0.mk (Kd.R_elder' (by (with_reducible repeat (first | apply Kd.R_alloc | apply Kd.R_drewN | apply Kd.R_drew)); exact HR.out) (Kd.R_base ho0) hb); have HN2 := Aside0.mk (fun k_ (e_ : v2.ownBlock = some k_) => Nat.le_trans (show Kept w _ (fun k_ => k_ = gf) from (by (with_reducible repeat (first | refine Kept.alloc ?_ _ | refine Kept.drewN ?_ _ | refine Kept.drew ?_)); exact HK.out)).1 (Kd.R_base ho0 k_ e_)); obtain ⟨Ao, co, eo_⟩ := Kd.R_slice ho0; subst eo_; clear ho0 hb) | ((with_reducible refine gate_builtin (b := .append) (xs := #[.tmp 43, .tmp 45]) rfl ?_); at_builtin; refine Kd.R_append (Kd.int .i64) (w0 := w0) w0.heap.size rfl (.tmp 43) (.tmp 45) 26 3 (.int .i64 0) 8 rfl Try.underlying26 info3 rfl (by decide) (by omega) (.slice Ao o.length co) o a [.int .i64 a] (fun _ => True) (fun _ => False) rfl rfl ?aP (fun _ hk => hk.elim) ?aF ?aO ?aB ?aS ?aL ?_; (case aP => exact rfl); (case aB => exact (by repeat (first | (with_reducible first | exact HB2.out | apply below_alloc | apply pw_below_drewN | apply below_drew1) | exact HB2.out))); (case aF => exact (fun _ _ => trivial)); (case aO => exact (by (with_reducible repeat (first | apply Kd.R_alloc | apply Kd.R_drewN | apply Kd.R_drew)); exact HS2.out)); (case aS => exact (below_size (by repeat (first | (with_reducible first | exact HB2.out | apply below_alloc | apply pw_below_drewN | apply below_drew1) | exact HB2.out)))); (case aL => have := HL.out; omega); intro v3 w3 ho hb hg hat; rw [← Ny.out] at ho; have HB3 := Aside0.mk (hb); have HS3 := Aside0.mk (ho); have BF3 := Aside0.mk (blk_grown (by (with_reducible repeat (first | refine blk_drewN ?_ _ | refine blk_drew ?_ | refine blk_alloc ?_ _)); exact BF2.out) hg (Kd.R_ne HS2.out BF2.out (by decide))); have HR3 := Aside0.mk (Kd.R_mono (ok' := fun _ => True) (Kd.R_grown (ok := fun k_ => True ∧ some k_ ≠ (Value.slice Ao o.length co).ownBlock) (by (with_reducible repeat (first | apply Kd.R_alloc | apply Kd.R_drewN | apply Kd.R_drew)); exact HR2.out) hg (fun k_ hk_ => hk_.2)) (fun _ _ => trivial)); have HK3 := Aside0.mk (Kept.of_grown hg (by (with_reducible repeat (first | refine Kept.alloc ?_ _ | refine Kept.drewN ?_ _ | refine Kept.drew ?_)); exact HK2.out) (fun k_ e_ => .inr (HN2.out k_ e_))); obtain ⟨A3_, c3_, e3_⟩ := Kd.R_slice HS3.out; subst e3_; clear ho hb hg hat) | (go_at_call 22; (with_reducible refine (IH.out k2 (by have := HKk.out; omega) At ct t A3_ c3_ y _ _ ?sB ?sF ?sR ?sT HCT.out ?sI A4.out).mono ?_); (case sB => exact (by repeat (first | (with_reducible first | exact HB3.out | apply below_alloc | apply pw_below_drewN | apply below_drew1) | exact HB3.out))); (case sF => exact (by (with_reducible repeat (first | refine blk_drewN ?_ _ | refine blk_drew ?_ | refine blk_alloc ?_ _)); exact BF3.out)); (case sR => exact (by (with_reducible repeat (first | apply Kd.R_alloc | apply Kd.R_drewN | apply Kd.R_drew)); exact HS3.out)); (case sT => exact Kd.F_kept HFT.out (by (with_reducible repeat (first | refine Kept.alloc ?_ _ | refine Kept.drewN ?_ _ | refine Kept.drew ?_)); exact HK3.out) (fun _ hk hs => hk hs)); (case sI => exact HIK.out _ _ HI.out (by (with_reducible repeat (first | refine Kept.alloc ?_ _ | refine Kept.drewN ?_ _ | refine Kept.drew ?_)); exact HK3.out)); rintro e w4 ⟨rfl, Af4, cf4, hbf4, hro4, hn4, hB4, hk4⟩; have BF4 := Aside0.mk (hbf4); have HO4 := Aside0.mk (hro4); have HN4 := Aside0.mk (hn4); have HB4 := Aside0.mk (hB4); have HK4 := Aside0.mk (Kept.then_ (S := fun k_ => k_ = gf) (by (with_reducible repeat (first | refine Kept.alloc ?_ _ | refine Kept.drewN ?_ _ | refine Kept.drew ?_)); exact HK3.out) hk4 (fun k_ h_ => .inl h_)); have HR4 := Aside0.mk (Kd.R_mono (ok' := fun _ => True) (Kd.R_kept (ok := fun k_ => True ∧ k_ ≠ gf) (Kd.R_types (by (with_reducible repeat (first | apply Kd.R_alloc | apply Kd.R_drewN | apply Kd.R_drew)); exact HR3.out) (by (with_reducible repeat (first | refine blk_drewN ?_ _ | refine blk_drew ?_ | refine blk_alloc ?_ _)); exact BF3.out) (by decide)) hk4 (fun _ h_ e_ => h_.2 e_)) (fun _ _ => trivial)); clear hbf4 hro4 hn4 hB4 hk4))
       go_roundg k2
       case measure => have := HKk.out; omega
       case rel => exact ⟨wrap64 (a + 1), (by first | rfl | (simp; done) | (simp [*]; done)), H', ⟨by have := HKk.out; omega⟩, ⟨by (with_reducible repeat (first | refine blk_drewN ?_ _ | refine blk_drew ?_ | refine blk_alloc ?_ _)); have h_ := BF4.out; obtain ⟨e1_, e2_⟩ := HN4.out (by first | exact rfl | trivial); rw [e1_, e2_] at h_; exact h_⟩, ⟨by (with_reducible repeat (first | apply Kd.R_alloc | apply Kd.R_drewN | apply Kd.R_drew)); exact HR4.out⟩, ⟨by repeat (first | (with_reducible first | exact HB4.out | apply below_alloc | apply pw_below_drewN | apply below_drew1) | exact HB4.out)⟩, ⟨by (with_reducible repeat (first | refine Kept.alloc ?_ _ | refine Kept.drewN ?_ _ | refine Kept.drew ?_)); exact HK4.out⟩⟩
    ·rw [if_neg hb0] at H
     obtain rfl : b = [] := List.eq_nil_of_length_eq_zero (by omega)
     clear hb0
     obtain ⟨o, ho, H⟩ := Option.bind_eq_some_iff.1 H
     have A3 := Aside0.mk ho
     clear ho
     by_cases hl_ : o.length < 17592186044416
     rotate_left
     ·rw [if_neg hl_] at H; cases H
     rw [if_pos hl_] at H
     have HL := Aside0.mk hl_
     clear hl_
     obtain ⟨r_, hq, H⟩ := Option.bind_eq_some_iff.1 H
     obtain ⟨y, hy⟩ : ∃ y_ : List Int, y_ = o ++ [a] := ⟨_, rfl⟩
     rw [← hy] at hq
     have Ny := Aside0.mk hy
     have A4 := Aside0.mk hq
     clear hq hy
     cases r_ with
     | some x =>
      rw [if_pos (show (some x).isSome = true from rfl)] at H
      obtain rfl := Option.some.inj H
      go_wp2_with (first | (go_at_call 33; (refine (slices_Contains_int_int.calls k2 Ab cb [] a false _ ?k1 HCB.out A1.out).mono ?_); (case k1 => repeat (first | exact (Kd.R_reads' HR.out).2.2 | (with_reducible refine Kd.C_alloc ?_ _) | (with_reducible refine Kd.C_drewN ?_ _) | (with_reducible refine Kd.C_drew ?_))); rintro e w' ⟨rfl, ⟨nd, rfl⟩⟩) | (go_at_call 35; (refine (slices_Clone_int_int.calls Ab cb [] o _ ?k3 HCB.out A3.out).mono ?_); (case k3 => repeat (first | exact (Kd.R_reads' HR.out).2.2 | (with_reducible refine Kd.C_alloc ?_ _) | (with_reducible refine Kd.C_drewN ?_ _) | (with_reducible refine Kd.C_drew ?_))); rintro e w2 ⟨v2, rfl, ho0, hb⟩; have BF2 := Aside0.mk (blk_below (g := gf) (o := (.cells #[.slice none 0 0] 26 (0, 0))) (by (with_reducible repeat (first | refine blk_drewN ?_ _ | refine blk_drew ?_ | refine blk_alloc ?_ _)); exact BF.out) hb); have HS2 := Aside0.mk (Kd.R_lower ho0 (below_size (by repeat (first | (with_reducible first | exact HB.out | apply below_alloc | apply pw_below_drewN | apply below_drew1) | exact HB.out)))); have HB2 := Aside0.mk ((below_step (by repeat (first | (with_reducible first | exact HB.out | apply below_alloc | apply pw_below_drewN | apply below_drew1) | exact HB.out)) hb : Below w0.heap.size w0 w2)); have HK2 := Aside0.mk (Kept.below (by (with_reducible repeat (first | refine Kept.alloc ?_ _ | refine Kept.drewN ?_ _ | refine Kept.drew ?_)); exact HK.out) hb); have HR2 := Aside0.mk (Kd.R_elder' (by (with_reducible repeat (first | apply Kd.R_alloc | apply Kd.R_drewN | apply Kd.R_drew)); exact HR.out) (Kd.R_base ho0) hb); have HN2 := Aside0.mk (fun k_ (e_ : v2.ownBlock = some k_) => Nat.le_trans (show Kept w _ (fun k_ => k_ = gf) from (by (with_reducible repeat (first | refine Kept.alloc ?_ _ | refine Kept.drewN ?_ _ | refine Kept.drew ?_)); exact HK.out)).1 (Kd.R_base ho0 k_ e_)); obtain ⟨Ao, co, eo_⟩ := Kd.R_slice ho0; subst eo_; clear ho0 hb) | ((with_reducible refine gate_builtin (b := .append) (xs := #[.tmp 43, .tmp 45]) rfl ?_); at_builtin; refine Kd.R_append (Kd.int .i64) (w0 := w0) w0.heap.size rfl (.tmp 43) (.tmp 45) 26 3 (.int .i64 0) 8 rfl Try.underlying26 info3 rfl (by decide) (by omega) (.slice Ao o.length co) o a [.int .i64 a] (fun _ => True) (fun _ => False) rfl rfl ?aP (fun _ hk => hk.elim) ?aF ?aO ?aB ?aS ?aL ?_; (case aP => exact rfl); (case aB => exact (by repeat (first | (with_reducible first | exact HB2.out | apply below_alloc | apply pw_below_drewN | apply below_drew1) | exact HB2.out))); (case aF => exact (fun _ _ => trivial)); (case aO => exact (by (with_reducible repeat (first | apply Kd.R_alloc | apply Kd.R_drewN | apply Kd.R_drew)); exact HS2.out)); (case aS => exact (below_size (by repeat (first | (with_reducible first | exact HB2.out | apply below_alloc | apply pw_below_drewN | apply below_drew1) | exact HB2.out)))); (case aL => have := HL.out; omega); intro v3 w3 ho hb hg hat; rw [← Ny.out] at ho; have HB3 := Aside0.mk (hb); have HS3 := Aside0.mk (ho); have BF3 := Aside0.mk (blk_grown (by (with_reducible repeat (first | refine blk_drewN ?_ _ | refine blk_drew ?_ | refine blk_alloc ?_ _)); exact BF2.out) hg (Kd.R_ne HS2.out BF2.out (by decide))); have HR3 := Aside0.mk (Kd.R_mono (ok' := fun _ => True) (Kd.R_grown (ok := fun k_ => True ∧ some k_ ≠ (Value.slice Ao o.length co).ownBlock) (by (with_reducible repeat (first | apply Kd.R_alloc | apply Kd.R_drewN | apply Kd.R_drew)); exact HR2.out) hg (fun k_ hk_ => hk_.2)) (fun _ _ => trivial)); have HK3 := Aside0.mk (Kept.of_grown hg (by (with_reducible repeat (first | refine Kept.alloc ?_ _ | refine Kept.drewN ?_ _ | refine Kept.drew ?_)); exact HK2.out) (fun k_ e_ => .inr (HN2.out k_ e_))); obtain ⟨A3_, c3_, e3_⟩ := Kd.R_slice HS3.out; subst e3_; clear ho hb hg hat) | (go_at_call 22; (with_reducible refine (IH.out k2 (by have := HKk.out; omega) At ct t A3_ c3_ y _ _ ?sB ?sF ?sR ?sT HCT.out ?sI A4.out).mono ?_); (case sB => exact (by repeat (first | (with_reducible first | exact HB3.out | apply below_alloc | apply pw_below_drewN | apply below_drew1) | exact HB3.out))); (case sF => exact (by (with_reducible repeat (first | refine blk_drewN ?_ _ | refine blk_drew ?_ | refine blk_alloc ?_ _)); exact BF3.out)); (case sR => exact (by (with_reducible repeat (first | apply Kd.R_alloc | apply Kd.R_drewN | apply Kd.R_drew)); exact HS3.out)); (case sT => exact Kd.F_kept HFT.out (by (with_reducible repeat (first | refine Kept.alloc ?_ _ | refine Kept.drewN ?_ _ | refine Kept.drew ?_)); exact HK3.out) (fun _ hk hs => hk hs)); (case sI => exact HIK.out _ _ HI.out (by (with_reducible repeat (first | refine Kept.alloc ?_ _ | refine Kept.drewN ?_ _ | refine Kept.drew ?_)); exact HK3.out)); rintro e w4 ⟨rfl, Af4, cf4, hbf4, hro4, hn4, hB4, hk4⟩; have BF4 := Aside0.mk (hbf4); have HO4 := Aside0.mk (hro4); have HN4 := Aside0.mk (hn4); have HB4 := Aside0.mk (hB4); have HK4 := Aside0.mk (Kept.then_ (S := fun k_ => k_ = gf) (by (with_reducible repeat (first | refine Kept.alloc ?_ _ | refine Kept.drewN ?_ _ | refine Kept.drew ?_)); exact HK3.out) hk4 (fun k_ h_ => .inl h_)); have HR4 := Aside0.mk (Kd.R_mono (ok' := fun _ => True) (Kd.R_kept (ok := fun k_ => True ∧ k_ ≠ gf) (Kd.R_types (by (with_reducible repeat (first | apply Kd.R_alloc | apply Kd.R_drewN | apply Kd.R_drew)); exact HR3.out) (by (with_reducible repeat (first | refine blk_drewN ?_ _ | refine blk_drew ?_ | refine blk_alloc ?_ _)); exact BF3.out) (by decide)) hk4 (fun _ h_ e_ => h_.2 e_)) (fun _ _ => trivial)); clear hbf4 hro4 hn4 hB4 hk4))
      go_ret
      exact ⟨rfl, Af4, cf4, (by (with_reducible repeat (first | refine blk_drewN ?_ _ | refine blk_drew ?_ | refine blk_alloc ?_ _)); exact BF4.out), (by (with_reducible repeat (first | apply Kd.R_alloc | apply Kd.R_drewN | apply Kd.R_drew)); exact HO4.out), fun e_ => HN4.out e_, by repeat (first | (with_reducible first | exact HB4.out | apply below_alloc | apply pw_below_drewN | apply below_drew1) | exact HB4.out), (by (with_reducible repeat (first | refine Kept.alloc ?_ _ | refine Kept.drewN ?_ _ | refine Kept.drew ?_)); exact HK4.out)⟩
     | none =>
      rw [if_neg (by simp)] at H
      have H' := Aside0.mk H
      clear H
      go_wp2_with (first | (go_at_call 33; (refine (slices_Contains_int_int.calls k2 Ab cb [] a false _ ?k1 HCB.out A1.out).mono ?_); (case k1 => repeat (first | exact (Kd.R_reads' HR.out).2.2 | (with_reducible refine Kd.C_alloc ?_ _) | (with_reducible refine Kd.C_drewN ?_ _) | (with_reducible refine Kd.C_drew ?_))); rintro e w' ⟨rfl, ⟨nd, rfl⟩⟩) | (go_at_call 35; (refine (slices_Clone_int_int.calls Ab cb [] o _ ?k3 HCB.out A3.out).mono ?_); (case k3 => repeat (first | exact (Kd.R_reads' HR.out).2.2 | (with_reducible refine Kd.C_alloc ?_ _) | (with_reducible refine Kd.C_drewN ?_ _) | (with_reducible refine Kd.C_drew ?_))); rintro e w2 ⟨v2, rfl, ho0, hb⟩; have BF2 := Aside0.mk (blk_below (g := gf) (o := (.cells #[.slice none 0 0] 26 (0, 0))) (by (with_reducible repeat (first | refine blk_drewN ?_ _ | refine blk_drew ?_ | refine blk_alloc ?_ _)); exact BF.out) hb); have HS2 := Aside0.mk (Kd.R_lower ho0 (below_size (by repeat (first | (with_reducible first | exact HB.out | apply below_alloc | apply pw_below_drewN | apply below_drew1) | exact HB.out)))); have HB2 := Aside0.mk ((below_step (by repeat (first | (with_reducible first | exact HB.out | apply below_alloc | apply pw_below_drewN | apply below_drew1) | exact HB.out)) hb : Below w0.heap.size w0 w2)); have HK2 := Aside0.mk (Kept.below (by (with_reducible repeat (first | refine Kept.alloc ?_ _ | refine Kept.drewN ?_ _ | refine Kept.drew ?_)); exact HK.out) hb); have HR2 := Aside0.mk (Kd.R_elder' (by (with_reducible repeat (first | apply Kd.R_alloc | apply Kd.R_drewN | apply Kd.R_drew)); exact HR.out) (Kd.R_base ho0) hb); have HN2 := Aside0.mk (fun k_ (e_ : v2.ownBlock = some k_) => Nat.le_trans (show Kept w _ (fun k_ => k_ = gf) from (by (with_reducible repeat (first | refine Kept.alloc ?_ _ | refine Kept.drewN ?_ _ | refine Kept.drew ?_)); exact HK.out)).1 (Kd.R_base ho0 k_ e_)); obtain ⟨Ao, co, eo_⟩ := Kd.R_slice ho0; subst eo_; clear ho0 hb) | ((with_reducible refine gate_builtin (b := .append) (xs := #[.tmp 43, .tmp 45]) rfl ?_); at_builtin; refine Kd.R_append (Kd.int .i64) (w0 := w0) w0.heap.size rfl (.tmp 43) (.tmp 45) 26 3 (.int .i64 0) 8 rfl Try.underlying26 info3 rfl (by decide) (by omega) (.slice Ao o.length co) o a [.int .i64 a] (fun _ => True) (fun _ => False) rfl rfl ?aP (fun _ hk => hk.elim) ?aF ?aO ?aB ?aS ?aL ?_; (case aP => exact rfl); (case aB => exact (by repeat (first | (with_reducible first | exact HB2.out | apply below_alloc | apply pw_below_drewN | apply below_drew1) | exact HB2.out))); (case aF => exact (fun _ _ => trivial)); (case aO => exact (by (with_reducible repeat (first | apply Kd.R_alloc | apply Kd.R_drewN | apply Kd.R_drew)); exact HS2.out)); (case aS => exact (below_size (by repeat (first | (with_reducible first | exact HB2.out | apply below_alloc | apply pw_below_drewN | apply below_drew1) | exact HB2.out)))); (case aL => have := HL.out; omega); intro v3 w3 ho hb hg hat; rw [← Ny.out] at ho; have HB3 := Aside0.mk (hb); have HS3 := Aside0.mk (ho); have BF3 := Aside0.mk (blk_grown (by (with_reducible repeat (first | refine blk_drewN ?_ _ | refine blk_drew ?_ | refine blk_alloc ?_ _)); exact BF2.out) hg (Kd.R_ne HS2.out BF2.out (by decide))); have HR3 := Aside0.mk (Kd.R_mono (ok' := fun _ => True) (Kd.R_grown (ok := fun k_ => True ∧ some k_ ≠ (Value.slice Ao o.length co).ownBlock) (by (with_reducible repeat (first | apply Kd.R_alloc | apply Kd.R_drewN | apply Kd.R_drew)); exact HR2.out) hg (fun k_ hk_ => hk_.2)) (fun _ _ => trivial)); have HK3 := Aside0.mk (Kept.of_grown hg (by (with_reducible repeat (first | refine Kept.alloc ?_ _ | refine Kept.drewN ?_ _ | refine Kept.drew ?_)); exact HK2.out) (fun k_ e_ => .inr (HN2.out k_ e_))); obtain ⟨A3_, c3_, e3_⟩ := Kd.R_slice HS3.out; subst e3_; clear ho hb hg hat) | (go_at_call 22; (with_reducible refine (IH.out k2 (by have := HKk.out; omega) At ct t A3_ c3_ y _ _ ?sB ?sF ?sR ?sT HCT.out ?sI A4.out).mono ?_); (case sB => exact (by repeat (first | (with_reducible first | exact HB3.out | apply below_alloc | apply pw_below_drewN | apply below_drew1) | exact HB3.out))); (case sF => exact (by (with_reducible repeat (first | refine blk_drewN ?_ _ | refine blk_drew ?_ | refine blk_alloc ?_ _)); exact BF3.out)); (case sR => exact (by (with_reducible repeat (first | apply Kd.R_alloc | apply Kd.R_drewN | apply Kd.R_drew)); exact HS3.out)); (case sT => exact Kd.F_kept HFT.out (by (with_reducible repeat (first | refine Kept.alloc ?_ _ | refine Kept.drewN ?_ _ | refine Kept.drew ?_)); exact HK3.out) (fun _ hk hs => hk hs)); (case sI => exact HIK.out _ _ HI.out (by (with_reducible repeat (first | refine Kept.alloc ?_ _ | refine Kept.drewN ?_ _ | refine Kept.drew ?_)); exact HK3.out)); rintro e w4 ⟨rfl, Af4, cf4, hbf4, hro4, hn4, hB4, hk4⟩; have BF4 := Aside0.mk (hbf4); have HO4 := Aside0.mk (hro4); have HN4 := Aside0.mk (hn4); have HB4 := Aside0.mk (hB4); have HK4 := Aside0.mk (Kept.then_ (S := fun k_ => k_ = gf) (by (with_reducible repeat (first | refine Kept.alloc ?_ _ | refine Kept.drewN ?_ _ | refine Kept.drew ?_)); exact HK3.out) hk4 (fun k_ h_ => .inl h_)); have HR4 := Aside0.mk (Kd.R_mono (ok' := fun _ => True) (Kd.R_kept (ok := fun k_ => True ∧ k_ ≠ gf) (Kd.R_types (by (with_reducible repeat (first | apply Kd.R_alloc | apply Kd.R_drewN | apply Kd.R_drew)); exact HR3.out) (by (with_reducible repeat (first | refine blk_drewN ?_ _ | refine blk_drew ?_ | refine blk_alloc ?_ _)); exact BF3.out) (by decide)) hk4 (fun _ h_ e_ => h_.2 e_)) (fun _ _ => trivial)); clear hbf4 hro4 hn4 hB4 hk4))
      go_roundg k2
      case measure => have := HKk.out; omega
      case rel => exact ⟨wrap64 (a + 1), (by first | rfl | (simp; done) | (simp [*]; done)), H', ⟨by have := HKk.out; omega⟩, ⟨by (with_reducible repeat (first | refine blk_drewN ?_ _ | refine blk_drew ?_ | refine blk_alloc ?_ _)); have h_ := BF4.out; obtain ⟨e1_, e2_⟩ := HN4.out (by first | exact rfl | trivial); rw [e1_, e2_] at h_; exact h_⟩, ⟨by (with_reducible repeat (first | apply Kd.R_alloc | apply Kd.R_drewN | apply Kd.R_drew)); exact HR4.out⟩, ⟨by repeat (first | (with_reducible first | exact HB4.out | apply below_alloc | apply pw_below_drewN | apply below_drew1) | exact HB4.out)⟩, ⟨by (with_reducible repeat (first | refine Kept.alloc ?_ _ | refine Kept.drewN ?_ _ | refine Kept.drew ?_)); exact HK4.out⟩⟩
set_option maxHeartbeats 8000000 in
set_option maxRecDepth 100000 in
theorem impl_FirstRow_1.calls (gf : Nat) (w0 W : World) (A : Option Addr) (c : Nat) (b : List Int) (hgf : w0.heap.size ≤ gf) (hB : Below w0.heap.size w0 W) (hbf : W.heap[gf]? = some (.cells #[.slice none 0 0] 26 (0, 0))) :
  Calls Try.prog 23 #[.slice A b.length c, .pointer (some ⟨gf, 0, none⟩)] W fun e w' => e = .returned (.bool false) ∧ w'.heap[gf]? = some (.cells #[.slice A b.length c] 26 (0, 0)) ∧ Below w0.heap.size w0 w' ∧ Kept W w' (fun k_ => k_ = gf) := by
 have GF := Aside0.mk hgf
 have HB := Aside0.mk hB
 have BF := Aside0.mk hbf
 have hz : W.cell? ⟨gf, 0, none⟩ = some (.slice none 0 0) := (blk_cell BF.out 0).trans rfl
 clear hgf hB hbf
 go_enter Try.func23, Try.ntmps23
 go_wp2_with ((refine store_event (t := 26) (p := 1) (v := ?vn0_) (w1 := ?wn0_) ?hg ?ho ?hn ?hr ?_; (case ho => rfl); (case hg => rfl); (case hn => rfl); (case hr => have hf_ := blk_frozen BF.out 0; first | (go_simp; done) | (go_simp; rfl)); intro w2 hw; have BF2 := Aside0.mk (by rw [hw]; (with_reducible repeat (first | refine blk_drewN ?_ _ | refine blk_drew ?_ | refine blk_alloc ?_ _)); exact blk_put (by (with_reducible repeat (first | refine blk_drewN ?_ _ | refine blk_drew ?_ | refine blk_alloc ?_ _)); exact BF.out) 0 _ rfl : w2.heap[gf]? = some (.cells #[.slice A b.length c] 26 (0, 0))); have HB2 := Aside0.mk (by rw [hw]; (with_reducible repeat (first | apply below_drew1 | apply pw_below_drewN)); exact below_set (by repeat (first | (with_reducible first | exact HB.out | apply below_alloc | apply pw_below_drewN | apply below_drew1) | exact HB.out)) GF.out : Below w0.heap.size w0 w2); have HK2 := Aside0.mk (by rw [hw]; (with_reducible repeat (first | refine Kept.alloc ?_ _ | refine Kept.drewN ?_ _ | refine Kept.drew ?_)); exact Kept.setCell (Kept.refl W _) (.inl (by rfl)) _ : Kept W w2 (fun k_ => k_ = gf)); clear hw))
 go_ret
 exact ⟨rfl, (by (with_reducible repeat (first | refine blk_drewN ?_ _ | refine blk_drew ?_ | refine blk_alloc ?_ _)); exact BF2.out), by repeat (first | (with_reducible first | exact HB2.out | apply below_alloc | apply pw_below_drewN | apply below_drew1) | exact HB2.out), (by (with_reducible repeat (first | refine Kept.alloc ?_ _ | refine Kept.drewN ?_ _ | refine Kept.drew ?_)); exact HK2.out)⟩
theorem impl_FirstRow_1.each (gf : Nat) (w0 : World) (hgf : w0.heap.size ≤ gf) (W : World) (A : Option Addr) (c : Nat) (b : List Int) (q : Bool) (hp : (fun _ : List Int => some true) b = some q) (_ht : True) (hB : Below w0.heap.size w0 W) (hbf : W.heap[gf]? = some (.cells #[.slice none 0 0] 26 (0, 0))) (_hR : Kd.R (Kd.int .i64) 3 W w0.heap.size (fun _ => True) (.slice A b.length c) b) :
  Calls Try.prog 23 (#[.slice A b.length c] ++ #[.pointer (some ⟨gf, 0, none⟩)]) W fun e w' => e = .returned (.bool (!q)) ∧ w'.heap[gf]? = some (.cells #[if q = true then .slice A b.length c else .slice none 0 0] 26 (0, 0)) ∧ Below w0.heap.size w0 w' ∧ Kept W w' (fun k_ => k_ = gf) := by
 obtain rfl : q = true := (Option.some.inj hp).symm
 have e_ : (#[.slice A b.length c] ++ #[.pointer (some ⟨gf, 0, none⟩)] : Array Value) = #[.slice A b.length c, .pointer (some ⟨gf, 0, none⟩)] := by simp
 rw [e_]
 exact (impl_FirstRow_1.calls gf w0 W A c b hgf hB hbf).mono fun e w' h => ⟨h.1, by rw [if_pos rfl]; exact h.2.1, h.2.2.1, h.2.2.2⟩
theorem impl_FirstRow.rows0 (k : Nat) (gf : Nat) (w0 W : World) (At : Option Addr) (ct : Nat) (t : List Int) (r : Option (List Int)) (hgf : w0.heap.size ≤ gf) (hB : Below w0.heap.size w0 W) (hbf : W.heap[gf]? = some (.cells #[.slice none 0 0] 26 (0, 0))) (hT : Kd.F (Kd.int .u16) W (fun k_ => k_ ≠ gf) At t.length t) (hct : t.length ≤ ct) (h : impl_table_rows.f (fun _ => some true) k t [] = some r) :
  Calls Try.prog 22 #[.slice At t.length ct, .slice none 0 0, .func (.func 23) #[] #[.pointer (some ⟨gf, 0, none⟩)]] W fun e w' => impl_table_rows.Post gf w0 W r e w' :=
 impl_table_rows.calls (fun _ => some true) (fun _ => True) 23 _ #[.pointer (some ⟨gf, 0, none⟩)] gf w0 Try.func23 (by kernel_rfl) rfl (fun _ _ _ _ => trivial) (impl_FirstRow_1.each gf w0 hgf) k At ct t none 0 [] r W hB hbf (Kd.R_nil _ _ _ _ _) hT hct trivial h
def impl_FirstRow.f (k : Nat) (a0_0 : Int) (l0_1 : List (S56)) : Option (List Int × Bool) := (impl_isSeated.f k a0_0 l0_1).bind fun s => if s = true then (if a0_0 = 0 then some ([], false) else ((impl_Party_table.f k a0_0 l0_1).bind fun t => (impl_table_rows.f (fun _ => some true) k t []).bind fun r => if r.isSome = true then (if 0 < (r.getD []).length then some (r.getD [], true) else none) else some ([], false))) else some ([], false)
theorem impl_FirstRow.mono : ∀ a0 a1 k, LeO (impl_FirstRow.f k a0 a1) (impl_FirstRow.f (k + 1) a0 a1) := by
 intro a0 a1 k
 unfold impl_FirstRow.f
 exact LeO.bind (impl_isSeated.mono _ _ _) (fun _ => LeO.ite (LeO.ite (LeO.refl _) (LeO.bind (impl_Party_table.mono _ _ _) (fun _ => LeO.bind ((impl_table_rows.mono_l _ _).1 _ _) (fun _ => LeO.refl _)))) (LeO.refl _))
theorem eqIn_nil (P : Program) (w : World) (d : Nat) (t e : TypeId) (h : P.underlying t = some (.slice e)) : (Op.equalIn (d + 1) t (.slice none 0 0) (.slice none 0 0)).run P w = .ok true w := by
 simp [Op.equalIn, run_underlying h]
theorem eqIn_some (P : Program) (w : World) (d : Nat) (t e : TypeId) (ad : Addr) (n c : Nat) (h : P.underlying t = some (.slice e)) : (Op.equalIn (d + 1) t (.slice (some ad) n c) (.slice none 0 0)).run P w = .ok false w := by
 simp [Op.equalIn, run_underlying h]
theorem neq_nil_nil (P : Program) (w : World) (t e : TypeId) (h : P.underlying t = some (.slice e)) : (Go.binOp .neq t (.slice none 0 0) (.slice none 0 0)).run P w = .ok (.bool false) w := by
 have hq : (Op.equal t (.slice none 0 0) (.slice none 0 0)).run P w = .ok true w := eqIn_nil P w 9999 t e h
 simp only [Go.binOp]
 simp [hq]
theorem neq_some_nil (P : Program) (w : World) (t e : TypeId) (ad : Addr) (n c : Nat) (h : P.underlying t = some (.slice e)) : (Go.binOp .neq t (.slice (some ad) n c) (.slice none 0 0)).run P w = .ok (.bool true) w := by
 have hq : (Op.equal t (.slice (some ad) n c) (.slice none 0 0)).run P w = .ok false w := eqIn_some P w 9999 t e ad n c h
 simp only [Go.binOp]
 simp [hq]
def impl_FirstRow.T5 : Bool × List (List Nat × List Nat) := (true, [([], []), ([], []), ([1], [1]), ([0, 0], [0]), ([2, 3, 0, 1, 2, 3], [2])])
def impl_FirstRow.B5 : List Nat := [0, 0, 2, 1, 15]
theorem impl_FirstRow.tab5 : rtab .any (opsOf Try.f8 5) = impl_FirstRow.T5 := by kernel_rfl
theorem impl_FirstRow.bits5 : waitsOk impl_FirstRow.T5.2 impl_FirstRow.B5 = true := by kernel_rfl
set_option maxHeartbeats 8000000 in
set_option maxRecDepth 100000 in
theorem impl_FirstRow.calls (k : Nat) (a0_0 : Int) (A0_1 : Option Addr) (c0_1 : Nat) (l0_1 : List (S56)) (r1 : List Int) (r2 : Bool) (w : World) (hr0_1 : Kd.C k56 w A0_1 l0_1.length l0_1) (hc0_1 : l0_1.length ≤ c0_1) (h : impl_FirstRow.f k a0_0 l0_1 = some (r1, r2)) :
  Calls Try.prog 8 #[.agg #[.int .i64 a0_0, .slice A0_1 l0_1.length c0_1]] w fun e w' => ∃ v0_ : Value, e = .returned (.tuple #[v0_, .bool r2]) ∧ Kd.R (Kd.int .i64) 3 w' w.heap.size (fun _ => True) v0_ r1 ∧ Below w.heap.size w w' := by
 have hu31 := Try.underlying31
 have huI := Try.underlying26
 have HR0 := Aside0.mk hr0_1
 have HC0 := Aside0.mk hc0_1
 clear hr0_1 hc0_1
 have HB := Aside0.mk (Below.refl w.heap.size w)
 unfold impl_FirstRow.f at h
 replace h := Option.bind_eq_some_iff.1 h
 obtain ⟨s, hs, h⟩ := h
 have A1 := Aside0.mk hs
 clear hs
 cases s with
 | false =>
  rw [if_neg (by simp)] at h
  simp only [Option.some.injEq, Prod.mk.injEq] at h
  obtain ⟨rfl, rfl⟩ := h
  go_enter Try.func8, Try.ntmps8
  go_wp2_with (first | ((with_reducible refine gate_dst (N := 1) rfl ?_); refine box_event ?hg (N := 1) ?hd (cs := #[.int .i64 a0_0, .slice A0_1 l0_1.length c0_1]) (t := 31) ?hr ?_; (case hd => rfl); (case hg => rfl); (case hr => first | (go_simp; done) | (go_simp; rfl)); intro gp hg w2 hbox hb; have HB2 := Aside0.mk ((below_step (by repeat (first | (with_reducible first | exact HB.out | apply below_alloc | apply pw_below_drewN | apply below_drew1) | exact HB.out)) hb : Below w.heap.size w w2)); have BP2 := Aside0.mk (hbox); have hzp0 : w2.cell? ⟨gp, 0, none⟩ = some (.int .i64 a0_0) := (blk_cell hbox 0).trans rfl; have hzp1 : w2.cell? ⟨gp, 1, none⟩ = some (.slice A0_1 l0_1.length c0_1) := (blk_cell hbox 1).trans rfl; clear hb hbox hg) | (go_at_call 20; (with_reducible refine (impl_isSeated.calls k a0_0 A0_1 c0_1 l0_1 false _ ?k1 HC0.out A1.out).mono ?_); (case k1 => repeat (first | exact (Kd.C_below HR0.out HB2.out) | (with_reducible refine Kd.C_alloc ?_ _) | (with_reducible refine Kd.C_drewN ?_ _) | (with_reducible refine Kd.C_drew ?_))); rintro e w3 ⟨rfl, hb⟩; clear hzp0 hzp1; have HB3 := Aside0.mk ((below_step (by repeat (first | (with_reducible first | exact HB2.out | apply below_alloc | apply pw_below_drewN | apply below_drew1) | exact HB2.out)) hb : Below w.heap.size w w3)); have BP3 := Aside0.mk (blk_below (g := gp) (o := .cells #[.int .i64 a0_0, .slice A0_1 l0_1.length c0_1] 31 (0, 0)) (by (with_reducible repeat (first | refine blk_drewN ?_ _ | refine blk_drew ?_ | refine blk_alloc ?_ _)); exact BP2.out) hb); have hzp0 : w3.cell? ⟨gp, 0, none⟩ = some (.int .i64 a0_0) := (blk_cell BP3.out 0).trans rfl; have hzp1 : w3.cell? ⟨gp, 1, none⟩ = some (.slice A0_1 l0_1.length c0_1) := (blk_cell BP3.out 1).trans rfl; clear hb))
  go_ret2
  exact ⟨_, (by first | rfl | (simp; done) | (simp [*]; done)), Kd.R_nil _ _ _ _ _, by repeat (first | (with_reducible first | exact HB3.out | apply below_alloc | apply pw_below_drewN | apply below_drew1) | exact HB3.out)⟩
 | true =>
  rw [if_pos rfl] at h
  by_cases z : a0_0 = 0
  ·rw [if_pos z] at h
   subst z
   simp only [Option.some.injEq, Prod.mk.injEq] at h
   obtain ⟨rfl, rfl⟩ := h
   go_enter Try.func8, Try.ntmps8
   go_wp2_with (first | ((with_reducible refine gate_dst (N := 1) rfl ?_); refine box_event ?hg (N := 1) ?hd (cs := #[.int .i64 0, .slice A0_1 l0_1.length c0_1]) (t := 31) ?hr ?_; (case hd => rfl); (case hg => rfl); (case hr => first | (go_simp; done) | (go_simp; rfl)); intro gp hg w2 hbox hb; have HB2 := Aside0.mk ((below_step (by repeat (first | (with_reducible first | exact HB.out | apply below_alloc | apply pw_below_drewN | apply below_drew1) | exact HB.out)) hb : Below w.heap.size w w2)); have BP2 := Aside0.mk (hbox); have hzp0 : w2.cell? ⟨gp, 0, none⟩ = some (.int .i64 0) := (blk_cell hbox 0).trans rfl; have hzp1 : w2.cell? ⟨gp, 1, none⟩ = some (.slice A0_1 l0_1.length c0_1) := (blk_cell hbox 1).trans rfl; clear hb hbox hg) | (go_at_call 20; (with_reducible refine (impl_isSeated.calls k 0 A0_1 c0_1 l0_1 true _ ?k1 HC0.out A1.out).mono ?_); (case k1 => repeat (first | exact (Kd.C_below HR0.out HB2.out) | (with_reducible refine Kd.C_alloc ?_ _) | (with_reducible refine Kd.C_drewN ?_ _) | (with_reducible refine Kd.C_drew ?_))); rintro e w3 ⟨rfl, hb⟩; clear hzp0 hzp1; have HB3 := Aside0.mk ((below_step (by repeat (first | (with_reducible first | exact HB2.out | apply below_alloc | apply pw_below_drewN | apply below_drew1) | exact HB2.out)) hb : Below w.heap.size w w3)); have BP3 := Aside0.mk (blk_below (g := gp) (o := .cells #[.int .i64 0, .slice A0_1 l0_1.length c0_1] 31 (0, 0)) (by (with_reducible repeat (first | refine blk_drewN ?_ _ | refine blk_drew ?_ | refine blk_alloc ?_ _)); exact BP2.out) hb); have hzp0 : w3.cell? ⟨gp, 0, none⟩ = some (.int .i64 0) := (blk_cell BP3.out 0).trans rfl; have hzp1 : w3.cell? ⟨gp, 1, none⟩ = some (.slice A0_1 l0_1.length c0_1) := (blk_cell BP3.out 1).trans rfl; clear hb))
   go_ret2
   exact ⟨_, (by first | rfl | (simp; done) | (simp [*]; done)), Kd.R_nil _ _ _ _ _, by repeat (first | (with_reducible first | exact HB3.out | apply below_alloc | apply pw_below_drewN | apply below_drew1) | exact HB3.out)⟩
  ·rw [if_neg z] at h
   have z1 : decide (a0_0 = 0) = false := decide_eq_false z
   have z2 : (a0_0 == 0) = false := by simpa using z
   clear z
   replace h := Option.bind_eq_some_iff.1 h
   obtain ⟨t, ht, h⟩ := h
   have A2 := Aside0.mk ht
   clear ht
   replace h := Option.bind_eq_some_iff.1 h
   obtain ⟨r, hr, h⟩ := h
   have A3 := Aside0.mk hr
   have H' := Aside0.mk h
   clear hr h
   go_enter Try.func8, Try.ntmps8
   go_wp2_with (first | ((with_reducible refine gate_dst (N := 1) rfl ?_); refine box_event ?hg (N := 1) ?hd (cs := #[.int .i64 a0_0, .slice A0_1 l0_1.length c0_1]) (t := 31) ?hr ?_; (case hd => rfl); (case hg => rfl); (case hr => first | (go_simp; done) | (go_simp; rfl)); intro gp hg w2 hbox hb; have HB2 := Aside0.mk ((below_step (by repeat (first | (with_reducible first | exact HB.out | apply below_alloc | apply pw_below_drewN | apply below_drew1) | exact HB.out)) hb : Below w.heap.size w w2)); have BP2 := Aside0.mk (hbox); have hzp0 : w2.cell? ⟨gp, 0, none⟩ = some (.int .i64 a0_0) := (blk_cell hbox 0).trans rfl; have hzp1 : w2.cell? ⟨gp, 1, none⟩ = some (.slice A0_1 l0_1.length c0_1) := (blk_cell hbox 1).trans rfl; clear hb hbox hg) | (go_at_call 20; (with_reducible refine (impl_isSeated.calls k a0_0 A0_1 c0_1 l0_1 true _ ?k1 HC0.out A1.out).mono ?_); (case k1 => repeat (first | exact (Kd.C_below HR0.out HB2.out) | (with_reducible refine Kd.C_alloc ?_ _) | (with_reducible refine Kd.C_drewN ?_ _) | (with_reducible refine Kd.C_drew ?_))); rintro e w3 ⟨rfl, hb⟩; clear hzp0 hzp1; have HB3 := Aside0.mk ((below_step (by repeat (first | (with_reducible first | exact HB2.out | apply below_alloc | apply pw_below_drewN | apply below_drew1) | exact HB2.out)) hb : Below w.heap.size w w3)); have BP3 := Aside0.mk (blk_below (g := gp) (o := .cells #[.int .i64 a0_0, .slice A0_1 l0_1.length c0_1] 31 (0, 0)) (by (with_reducible repeat (first | refine blk_drewN ?_ _ | refine blk_drew ?_ | refine blk_alloc ?_ _)); exact BP2.out) hb); have hzp0 : w3.cell? ⟨gp, 0, none⟩ = some (.int .i64 a0_0) := (blk_cell BP3.out 0).trans rfl; have hzp1 : w3.cell? ⟨gp, 1, none⟩ = some (.slice A0_1 l0_1.length c0_1) := (blk_cell BP3.out 1).trans rfl; clear hb) | ((with_reducible refine gate_dst (N := 4) rfl ?_); refine box_event ?hg (N := 4) ?hd (cs := #[.slice none 0 0]) (t := 26) ?hr ?_; (case hd => rfl); (case hg => rfl); (case hr => first | (go_simp; done) | (go_simp; rfl)); intro gf hg w4 hbox hb; have HPF := Aside0.mk (show gp ≠ gf from by rw [hg]; exact Nat.ne_of_lt (blk_lt (by (with_reducible repeat (first | refine blk_drewN ?_ _ | refine blk_drew ?_ | refine blk_alloc ?_ _)); exact BP3.out))); have GF := Aside0.mk (show w.heap.size ≤ gf from by rw [hg]; exact below_size (by repeat (first | (with_reducible first | exact HB3.out | apply below_alloc | apply pw_below_drewN | apply below_drew1) | exact HB3.out))); have HB4 := Aside0.mk ((below_step (by repeat (first | (with_reducible first | exact HB3.out | apply below_alloc | apply pw_below_drewN | apply below_drew1) | exact HB3.out)) hb : Below w.heap.size w w4)); have BP4 := Aside0.mk (blk_below (g := gp) (o := .cells #[.int .i64 a0_0, .slice A0_1 l0_1.length c0_1] 31 (0, 0)) (by (with_reducible repeat (first | refine blk_drewN ?_ _ | refine blk_drew ?_ | refine blk_alloc ?_ _)); exact BP3.out) hb); have BF4 := Aside0.mk (hbox); have hzf4 : w4.cell? ⟨gf, 0, none⟩ = some (.slice none 0 0) := (blk_cell hbox 0).trans rfl; clear hzp0 hzp1; clear hb hbox hg) | (refine store_event (t := 26) (p := 4) (v := ?vn1_) (w1 := ?wn1_) ?hg ?ho ?hn ?hr ?_; (case ho => rfl); (case hg => rfl); (case hn => rfl); (case hr => have hf_ := blk_frozen BF4.out 0; first | (go_simp; done) | (go_simp; rfl)); intro w5 hw; have HB5 := Aside0.mk (by rw [hw]; (with_reducible repeat (first | apply below_drew1 | apply pw_below_drewN)); exact below_set (by repeat (first | (with_reducible first | exact HB4.out | apply below_alloc | apply pw_below_drewN | apply below_drew1) | exact HB4.out)) GF.out : Below w.heap.size w w5); have BF5 := Aside0.mk (by rw [hw]; (with_reducible repeat (first | refine blk_drewN ?_ _ | refine blk_drew ?_ | refine blk_alloc ?_ _)); exact blk_put (by (with_reducible repeat (first | refine blk_drewN ?_ _ | refine blk_drew ?_ | refine blk_alloc ?_ _)); exact BF4.out) 0 _ rfl : w5.heap[gf]? = some (.cells #[.slice none 0 0] 26 (0, 0))); have BP5 := Aside0.mk (by rw [hw]; (with_reducible repeat (first | refine blk_drewN ?_ _ | refine blk_drew ?_ | refine blk_alloc ?_ _)); exact blk_far (by (with_reducible repeat (first | refine blk_drewN ?_ _ | refine blk_drew ?_ | refine blk_alloc ?_ _)); exact BP4.out) HPF.out _ : w5.heap[gp]? = some (.cells #[.int .i64 a0_0, .slice A0_1 l0_1.length c0_1] 31 (0, 0))); clear hzf4; have hzp0 : w5.cell? ⟨gp, 0, none⟩ = some (.int .i64 a0_0) := (blk_cell BP5.out 0).trans rfl; have hzp1 : w5.cell? ⟨gp, 1, none⟩ = some (.slice A0_1 l0_1.length c0_1) := (blk_cell BP5.out 1).trans rfl; clear hw) | (go_at_call 21; (with_reducible refine (impl_Party_table.calls k a0_0 A0_1 c0_1 l0_1 t _ ?k1 HC0.out A2.out).mono ?_); (case k1 => repeat (first | exact (Kd.C_below HR0.out HB5.out) | (with_reducible refine Kd.C_alloc ?_ _) | (with_reducible refine Kd.C_drewN ?_ _) | (with_reducible refine Kd.C_drew ?_))); rintro e w6 ⟨v6, rfl, ho0, hb⟩; clear hzp0 hzp1; have HT6 := Aside0.mk (Kd.R_lower ho0 (below_size (by repeat (first | (with_reducible first | exact HB5.out | apply below_alloc | apply pw_below_drewN | apply below_drew1) | exact HB5.out)))); have HB6 := Aside0.mk ((below_step (by repeat (first | (with_reducible first | exact HB5.out | apply below_alloc | apply pw_below_drewN | apply below_drew1) | exact HB5.out)) hb : Below w.heap.size w w6)); have BF6 := Aside0.mk (blk_below (g := gf) (o := .cells #[.slice none 0 0] 26 (0, 0)) (by (with_reducible repeat (first | refine blk_drewN ?_ _ | refine blk_drew ?_ | refine blk_alloc ?_ _)); exact BF5.out) hb); obtain ⟨At, ct, et_⟩ := Kd.R_slice HT6.out; subst et_; clear ho0 hb) | (go_at_call 22; (with_reducible refine (impl_FirstRow.rows0 k gf w _ At ct t r GF.out ?sB ?sF ?sT (Kd.R_reads' HT6.out).2.1 A3.out).mono ?_); (case sB => exact (by repeat (first | (with_reducible first | exact HB6.out | apply below_alloc | apply pw_below_drewN | apply below_drew1) | exact HB6.out))); (case sF => exact (by (with_reducible repeat (first | refine blk_drewN ?_ _ | refine blk_drew ?_ | refine blk_alloc ?_ _)); exact BF6.out)); (case sT => exact Kd.R_F (Kd.R_mono (Kd.R_types (by (with_reducible repeat (first | apply Kd.R_alloc | apply Kd.R_drewN | apply Kd.R_drew)); exact HT6.out) (by (with_reducible repeat (first | refine blk_drewN ?_ _ | refine blk_drew ?_ | refine blk_alloc ?_ _)); exact BF6.out) (by decide)) (fun _ h_ => h_.2))); rintro e w8 ⟨rfl, Af8, cf8, hbf8, ho8, hn8, hB8, hk8⟩; have BF8 := Aside0.mk (hbf8); have HO8 := Aside0.mk (ho8); have HN8 := Aside0.mk (hn8); have HB8 := Aside0.mk (hB8); clear hbf8 ho8 hn8 hB8 hk8))
   have H := H'.out
   clear H'
   cases r with
   | none =>
    rw [if_neg (by simp)] at H
    simp only [Option.some.injEq, Prod.mk.injEq] at H
    obtain ⟨rfl, rfl⟩ := H
    obtain ⟨rfl, rfl⟩ := HN8.out rfl
    have BF := Aside0.mk (show w8.heap[gf]? = some (.cells #[.slice none 0 0] 26 (0, 0)) from BF8.out)
    have hq1 : ∀ w_ : World, (Go.binOp .neq 26 (.slice none 0 0) (.slice none 0 0)).run Try.prog w_ = .ok (.bool false) w_ := fun w_ => neq_nil_nil _ w_ _ _ huI
    refine start_ (n := 5) (S := fun w' => w'.cell? ⟨gf, 0, none⟩ = some (.slice none 0 0)) (ds := []) #[false, false, false, false, false] (by kernel_rfl) rfl rfl ((blk_cell (by (with_reducible repeat (first | refine blk_drewN ?_ _ | refine blk_drew ?_ | refine blk_alloc ?_ _)); exact BF.out) 0).trans rfl) (fun hHeld => ?_)
    refine with_tabW impl_FirstRow.tab5 impl_FirstRow.bits5 (fun HT_ HW_ => ?_)
    refine take_ (i := 0) (N := some 17) (v := ?_) (a' := ?_) #[true, false, false, false, false] rfl rfl (take_ofW HT_.out HW_.out (by kernel_rfl)) (fun _ _ _ h => h) (Or.inl ⟨by rfl, ?_⟩) hHeld ?_ ?_
    rotate_left
    ·intro w' s0
     go_simp
     with_reducible rfl
    rotate_left
    ·simp only [Act.put, List.setIfInBounds_toArray, List.set_cons_zero, List.set_cons_succ, i64_w, i32_w]
     rfl
    refine take_ (i := 1) (N := some 18) (v := ?_) (a' := ?_) #[true, true, false, false, false] rfl rfl (take_ofW HT_.out HW_.out (by kernel_rfl)) (fun _ _ _ h => h) (Or.inl ⟨by rfl, ?_⟩) hHeld ?_ ?_
    rotate_left
    ·intro w' s0
     go_simp
     with_reducible rfl
    rotate_left
    ·simp only [Act.put, List.setIfInBounds_toArray, List.set_cons_zero, List.set_cons_succ, i64_w, i32_w]
     rfl
    refine pure_ (i := 2) (N := some 19) (v := ?_) (a' := ?_) #[true, true, true, false, false] rfl rfl (any_of HT_.out (by kernel_rfl)) (fun _ _ _ h => h) (Or.inl ⟨by rfl, ?_⟩) ?_ ?_
    rotate_left
    ·intro w'
     go_simp
     with_reducible rfl
    rotate_left
    ·simp only [Act.put, List.setIfInBounds_toArray, List.set_cons_zero, List.set_cons_succ, i64_w, i32_w]
     rfl
    refine pure_ (i := 3) (N := some 2) (v := ?_) (a' := ?_) #[true, true, true, true, false] rfl rfl (any_of HT_.out (by kernel_rfl)) (fun _ _ _ h => h) (Or.inl ⟨by rfl, ?_⟩) ?_ ?_
    rotate_left
    ·intro w'
     go_simp
     with_reducible rfl
    rotate_left
    ·simp only [Act.put, List.setIfInBounds_toArray, List.set_cons_zero, List.set_cons_succ, i64_w, i32_w]
     rfl
    refine pure_ (i := 4) (N := some 3) (v := ?_) (a' := ?_) #[true, true, true, true, true] rfl rfl (any_of HT_.out (by kernel_rfl)) (fun _ _ _ h => h) (Or.inl ⟨by rfl, ?_⟩) ?_ ?_
    rotate_left
    ·intro w'
     go_simp
     with_reducible rfl
    rotate_left
    ·simp only [Act.put, List.setIfInBounds_toArray, List.set_cons_zero, List.set_cons_succ, i64_w, i32_w]
     rfl
    refine done_ (done_of HT_.out (by kernel_rfl)) ?_
    go_wp2
    go_ret2
    exact ⟨_, (by first | rfl | (simp; done) | (simp [*]; done)), Kd.R_nil _ _ _ _ _, by repeat (first | (with_reducible first | exact HB8.out | apply below_alloc | apply pw_below_drewN | apply below_drew1) | exact HB8.out)⟩
   | some x =>
    rw [if_pos (show (some x).isSome = true from rfl)] at H
    by_cases hx : 0 < ((some x).getD []).length
    rotate_left
    ·rw [if_neg hx] at H; cases H
    rw [if_pos hx] at H
    simp only [Option.some.injEq, Prod.mk.injEq] at H
    obtain ⟨rfl, rfl⟩ := H
    have HX := Aside0.mk (show Kd.R (Kd.int .i64) 3 w8 w.heap.size (fun _ => True) (.slice Af8 x.length cf8) x from HO8.out)
    have BF := Aside0.mk (show w8.heap[gf]? = some (.cells #[.slice Af8 x.length cf8] 26 (0, 0)) from BF8.out)
    obtain ⟨ax_, ex_, hx0⟩ := Kd.at_int (Kd.R_reads' HX.out).2.2 0 (Int.le_refl 0) (by have : 0 < x.length := hx; omega)
    cases ex_
    clear hx0 hx
    have hq1 : ∀ w_ : World, (Go.binOp .neq 26 (.slice (some ax_) x.length cf8) (.slice none 0 0)).run Try.prog w_ = .ok (.bool true) w_ := fun w_ => neq_some_nil _ w_ _ _ _ _ _ huI
    refine start_ (n := 5) (S := fun w' => w'.cell? ⟨gf, 0, none⟩ = some (.slice (some ax_) x.length cf8)) (ds := []) #[false, false, false, false, false] (by kernel_rfl) rfl rfl ((blk_cell (by (with_reducible repeat (first | refine blk_drewN ?_ _ | refine blk_drew ?_ | refine blk_alloc ?_ _)); exact BF.out) 0).trans rfl) (fun hHeld => ?_)
    refine with_tabW impl_FirstRow.tab5 impl_FirstRow.bits5 (fun HT_ HW_ => ?_)
    refine take_ (i := 0) (N := some 17) (v := ?_) (a' := ?_) #[true, false, false, false, false] rfl rfl (take_ofW HT_.out HW_.out (by kernel_rfl)) (fun _ _ _ h => h) (Or.inl ⟨by rfl, ?_⟩) hHeld ?_ ?_
    rotate_left
    ·intro w' s0
     go_simp
     with_reducible rfl
    rotate_left
    ·simp only [Act.put, List.setIfInBounds_toArray, List.set_cons_zero, List.set_cons_succ, i64_w, i32_w]
     rfl
    refine take_ (i := 1) (N := some 18) (v := ?_) (a' := ?_) #[true, true, false, false, false] rfl rfl (take_ofW HT_.out HW_.out (by kernel_rfl)) (fun _ _ _ h => h) (Or.inl ⟨by rfl, ?_⟩) hHeld ?_ ?_
    rotate_left
    ·intro w' s0
     go_simp
     with_reducible rfl
    rotate_left
    ·simp only [Act.put, List.setIfInBounds_toArray, List.set_cons_zero, List.set_cons_succ, i64_w, i32_w]
     rfl
    refine pure_ (i := 2) (N := some 19) (v := ?_) (a' := ?_) #[true, true, true, false, false] rfl rfl (any_of HT_.out (by kernel_rfl)) (fun _ _ _ h => h) (Or.inl ⟨by rfl, ?_⟩) ?_ ?_
    rotate_left
    ·intro w'
     go_simp
     with_reducible rfl
    rotate_left
    ·simp only [Act.put, List.setIfInBounds_toArray, List.set_cons_zero, List.set_cons_succ, i64_w, i32_w]
     rfl
    refine pure_ (i := 3) (N := some 2) (v := ?_) (a' := ?_) #[true, true, true, true, false] rfl rfl (any_of HT_.out (by kernel_rfl)) (fun _ _ _ h => h) (Or.inl ⟨by rfl, ?_⟩) ?_ ?_
    rotate_left
    ·intro w'
     go_simp
     with_reducible rfl
    rotate_left
    ·simp only [Act.put, List.setIfInBounds_toArray, List.set_cons_zero, List.set_cons_succ, i64_w, i32_w]
     rfl
    refine pure_ (i := 4) (N := some 3) (v := ?_) (a' := ?_) #[true, true, true, true, true] rfl rfl (any_of HT_.out (by kernel_rfl)) (fun _ _ _ h => h) (Or.inl ⟨by rfl, ?_⟩) ?_ ?_
    rotate_left
    ·intro w'
     go_simp
     with_reducible rfl
    rotate_left
    ·simp only [Act.put, List.setIfInBounds_toArray, List.set_cons_zero, List.set_cons_succ, i64_w, i32_w]
     rfl
    refine done_ (done_of HT_.out (by kernel_rfl)) ?_
    go_wp2
    go_ret2
    exact ⟨_, (by first | rfl | (simp; done) | (simp [*]; done)), (by (with_reducible repeat (first | apply Kd.R_alloc | apply Kd.R_drewN | apply Kd.R_drew)); exact HX.out), by repeat (first | (with_reducible first | exact HB8.out | apply below_alloc | apply pw_below_drewN | apply below_drew1) | exact HB8.out)⟩

end Go.Proofs.Ytdkmkcgghhncdaa.Q
