import Derived.Test.YtedfcbbklhfgcaaDoorQ0
import Derived.Test.YtedfcbbklhfgcaaDoorQ21
import Derived.Test.YtedfcbbklhfgcaaDoorQ24
import Derived.Test.YtedfcbbklhfgcaaDoorQ57
import Derived.Test.YtedfcbbklhfgcaaDoorQ6
import Derived.Test.YtedfcbbklhfgcaaDoorQ54
import Derived.Test.YtedfcbbklhfgcaaDoorQ2
import Derived.Test.YtedfcbbklhfgcaaDoorQ14
import Derived.Test.YtedfcbbklhfgcaaDoorQ35
import Derived.Test.YtedfcbbklhfgcaaDoorQ59
import Derived.Test.YtedfcbbklhfgcaaDoorQ61
import Derived.Test.YtedfcbbklhfgcaaDoorQ62
import Derived.Test.YtedfcbbklhfgcaaDoorQ63
namespace Go.Proofs.YtedfcbbklhfgcaaDoor.Q
open Go.RowKit Go.Proofs.YtedfcbbklhfgcaaDoorW.PrintWords Go.Proofs.YtedfcbbklhfgcaaDoorW.PrintLast Go.Proofs.YtedfcbbklhfgcaaDoorW.PrintMore
attribute [local go_sem] max2_int min2_int max_two min_two max_three min_three max_four min_four   -- for this text's walks alone
set_option linter.unusedVariables false
set_option linter.unusedSimpArgs false

/-! ### impl_TablesApart: function 18 -/
def impl_TablesApart.f (k : Nat) (a0_0 : Int) (l0_1 : List (S56)) : Option (List Int × Bool) := (impl_IsParty.f k a0_0 l0_1).bind fun t540 => (if t540 = true then ((impl_Party_table.f k a0_0 l0_1).bind fun t541 => ((impl_table_apart.f k t541).bind fun bt544 => (some (bt544.1, bt544.2)))) else (some (([] : List Int), false)))
theorem impl_TablesApart.mono : ∀ a0 a1 k, LeO (impl_TablesApart.f k a0 a1) (impl_TablesApart.f (k + 1) a0 a1) := by
 intro a0 a1 k
 unfold impl_TablesApart.f
 repeat' first
   | (with_reducible exact impl_IsParty.mono _ _ _)
   | (with_reducible exact impl_Party_table.mono _ _ _)
   | (with_reducible exact impl_table_apart.mono _ _)
   | (with_reducible exact LeO.refl _)
   | (with_reducible exact LeO.none _)
   | (with_reducible refine LeO.ite ?_ ?_)
   | (with_reducible refine LeO.bind ?_ (fun _ => ?_))
   | exact impl_IsParty.mono _ _ _
   | exact impl_Party_table.mono _ _ _
   | exact impl_table_apart.mono _ _
   | exact LeO.none _
   | refine LeO.ite ?_ ?_
   | refine LeO.bind ?_ (fun _ => ?_)
set_option maxHeartbeats 8000000 in
set_option maxRecDepth 100000 in
theorem impl_TablesApart.calls (k : Nat) (a0_0 : Int) (A0_1 : Option Addr) (c0_1 : Nat) (l0_1 : List (S56)) (r1 : List Int) (r2 : Bool) (w : World) (hG : Tab w) (hr0_1 : Kd.C k56 w A0_1 l0_1.length l0_1) (hc0_1 : l0_1.length ≤ c0_1) (h : impl_TablesApart.f k a0_0 l0_1 = some (r1, r2)) :
  Calls Tryd.prog 18 #[.agg #[.int .i64 a0_0, .slice A0_1 l0_1.length c0_1]] w fun e w' => ∃ v0_ : Value, e = .returned (.tuple #[v0_, .bool r2]) ∧ Kd.R (Kd.int .i64) 3 w' w.heap.size (fun _ => True) v0_ r1 ∧ Below w.heap.size w w' := by
 have HG := Aside0.mk hG
 clear hG
 have hu30 := Tryd.underlying30
 have HR0_1 := Aside0.mk hr0_1
 have HC0_1 := Aside0.mk hc0_1
 clear hr0_1 hc0_1
 have HB := Aside0.mk (Below.refl w.heap.size w)
 have H : ((impl_IsParty.f k a0_0 l0_1).bind fun t540 => (if t540 = true then ((impl_Party_table.f k a0_0 l0_1).bind fun t541 => ((impl_table_apart.f k t541).bind fun bt544 => (some (bt544.1, bt544.2)))) else (some (([] : List Int), false)))) = some (r1, r2) := h
 clear h
 replace H := Option.bind_eq_some_iff.mp H
 obtain ⟨t540, A20, H⟩ := H
 replace H : (if t540 = true then ((impl_Party_table.f k a0_0 l0_1).bind fun t541 => ((impl_table_apart.f k t541).bind fun bt544 => (some (bt544.1, bt544.2)))) else (some (([] : List Int), false))) = some (r1, r2) := H
 have A2 := Aside0.mk A20
 clear A20
 by_cases c3 : t540 = true
 ·subst c3
  have H1 : ((impl_Party_table.f k a0_0 l0_1).bind fun t541 => ((impl_table_apart.f k t541).bind fun bt544 => (some (bt544.1, bt544.2)))) = some (r1, r2) := by rw [if_pos rfl] at H; exact H
  clear H
  have H := H1
  clear H1
  replace H := Option.bind_eq_some_iff.mp H
  obtain ⟨t541, A40, H⟩ := H
  replace H : ((impl_table_apart.f k t541).bind fun bt544 => (some (bt544.1, bt544.2))) = some (r1, r2) := H
  have A4 := Aside0.mk A40
  clear A40
  replace H := Option.bind_eq_some_iff.mp H
  obtain ⟨⟨t544, t545⟩, A50, H⟩ := H
  replace H : (some (t544, t545)) = some (r1, r2) := H
  have A5 := Aside0.mk A50
  clear A50
  simp only [Option.some.injEq, Prod.mk.injEq] at H
  obtain ⟨rfl, rfl⟩ := H
  go_enter Tryd.func18, Tryd.ntmps18
  go_wp2_with (first | ((with_reducible refine gate_dst (N := 1) rfl ?_); refine box_event ?hg (N := 1) ?hd (cs := #[.int .i64 a0_0, .slice A0_1 l0_1.length c0_1]) (t := 30) ?hr ?_; (case hd => rfl); (case hg => rfl); (case hr => first | (go_simp; done) | (go_simp; rfl)); intro gb539 hg w6 hbox hb; have n0_ := Aside0.mk (qak hB_ hb); have n1_ := Aside0.mk (hbox); have n2_ := Aside0.mk ((by rw [hg]; exact (qal hB_) : w.heap.size ≤ gb539)); have n3_ := n2_; clear HB; have HB := n0_; have BK539 := n1_; have GW539 := n2_; have GE539 := n3_; clear n0_ n1_ n2_ n3_; clear hb hbox hg; have hcz7_0 : w6.cell? ⟨gb539, 0, none⟩ = some (.int .i64 a0_0) := (qab BK539.out 0).trans rfl; have hcz7_1 : w6.cell? ⟨gb539, 1, none⟩ = some (.slice A0_1 l0_1.length c0_1) := (qab BK539.out 1).trans rfl; have hfz7_0 := qaf BK539.out 0; have hfz7_1 := qaf BK539.out 1) | ((with_reducible refine qao (f := 35) rfl ?_); refine goesL_ (some 5) rfl rfl Tryd.func35 (by kernel_rfl) rfl #[.agg #[.int .i64 a0_0, .slice A0_1 l0_1.length c0_1]] rfl mT_ ?_; (with_reducible refine (impl_IsParty.calls k a0_0 _ _ l0_1 true _ ?side1 ?side2 A2.out).mono ?_); (case side1 => repeat (first | exact (Kd.C_below HR0_1.out HB.out) | (with_reducible refine Kd.C_alloc ?_ _) | (with_reducible refine Kd.C_drewN ?_ _) | (with_reducible refine Kd.C_drew ?_))); (case side2 => exact HC0_1.out); rintro e w8 ⟨rfl, hb⟩; refine ⟨_, rfl, ?_⟩; have n0_ := Aside0.mk (qap (g := gb539) (o := .cells #[.int .i64 a0_0, .slice A0_1 l0_1.length c0_1] 30 (0, 0)) (uB_ BK539.out) hb); have n1_ := Aside0.mk (qak (hB1_ GE539.out) hb); clear BK539; clear HB; have BK539 := n0_; have HB := n1_; clear n0_ n1_; (try clear hb); (try clear hb2); (try clear hk); (try clear hi); have hcz9_0 : w8.cell? ⟨gb539, 0, none⟩ = some (.int .i64 a0_0) := (qab BK539.out 0).trans rfl; have hcz9_1 : w8.cell? ⟨gb539, 1, none⟩ = some (.slice A0_1 l0_1.length c0_1) := (qab BK539.out 1).trans rfl; have hfz9_0 := qaf BK539.out 0; have hfz9_1 := qaf BK539.out 1) | ((with_reducible refine qao (f := 32) rfl ?_); refine goesL_ (some 8) rfl rfl Tryd.func32 (by kernel_rfl) rfl #[.agg #[.int .i64 a0_0, .slice A0_1 l0_1.length c0_1]] rfl mT_ ?_; (with_reducible refine (impl_Party_table.calls k a0_0 _ _ l0_1 t541 _ ?side1 ?side2 A4.out).mono ?_); (case side1 => repeat (first | exact (Kd.C_below HR0_1.out HB.out) | (with_reducible refine Kd.C_alloc ?_ _) | (with_reducible refine Kd.C_drewN ?_ _) | (with_reducible refine Kd.C_drew ?_))); (case side2 => exact HC0_1.out); rintro e w10 ⟨v542, rfl, ho0, hb⟩; refine ⟨_, rfl, ?_⟩; have n0_ := Aside0.mk (Kd.R_lower ho0 (qal (hB1_ GE539.out))); have n1_ := Aside0.mk (qap (g := gb539) (o := .cells #[.int .i64 a0_0, .slice A0_1 l0_1.length c0_1] 30 (0, 0)) (uB_ BK539.out) hb); have n2_ := Aside0.mk (qak (hB1_ GE539.out) hb); clear BK539; clear HB; have HO543 := n0_; have BK539 := n1_; have HB := n2_; clear n0_ n1_ n2_; (try clear hb); (try clear hb2); (try clear hk); (try clear hi); (try clear ho0); obtain ⟨Ao11, co11, eo11⟩ := Kd.R_slice HO543.out; subst eo11) | ((with_reducible refine qao (f := 44) rfl ?_); refine goesL_ (some 9) rfl rfl Tryd.func44 (by kernel_rfl) rfl #[.slice Ao11 t541.length co11] rfl mT_ ?_; (with_reducible refine (impl_table_apart.calls k _ _ t541 t544 t545 _ ?sideG ?side1 ?side2 A5.out).mono ?_); (case sideG => first | exact HG.out | exact Tab.below HG.out (hB1_ GE539.out)); (case side1 => repeat (first | exact (Kd.R_reads' HO543.out).2.2 | (with_reducible refine Kd.C_alloc ?_ _) | (with_reducible refine Kd.C_drewN ?_ _) | (with_reducible refine Kd.C_drew ?_))); (case side2 => exact (Kd.R_reads' HO543.out).2.1); rintro e w12 ⟨v546, rfl, ho0, hb⟩; refine ⟨_, rfl, ?_⟩; have n0_ := Aside0.mk (Kd.R_below (uR_ HO543.out) hb); have n1_ := Aside0.mk (Kd.R_lower ho0 (qal (hB1_ GE539.out))); have n2_ := Aside0.mk (qap (g := gb539) (o := .cells #[.int .i64 a0_0, .slice A0_1 l0_1.length c0_1] 30 (0, 0)) (uB_ BK539.out) hb); have n3_ := Aside0.mk (qak (hB1_ GE539.out) hb); clear HO543; clear BK539; clear HB; have HO543 := n0_; have HO547 := n1_; have BK539 := n2_; have HB := n3_; clear n0_ n1_ n2_ n3_; (try clear hb); (try clear hb2); (try clear hk); (try clear hi); (try clear ho0)))
  go_ret2
  exact ⟨_, by first | rfl | (simp [errW_none, errW_some] <;> rfl) | (simp [*, errW_none, errW_some] <;> rfl), by (with_reducible repeat (first | apply Kd.qat | apply Kd.qas | apply Kd.R_drew)); exact HO547.out, by repeat (first | (with_reducible first | exact HB.out | apply qad | apply qaa | apply qac | refine qae ?_ GE539.out) | exact HB.out)⟩
 ·replace c3 := Bool.eq_false_iff.mpr c3
  subst c3
  have H1 : (some (([] : List Int), false)) = some (r1, r2) := by rw [if_neg (show ¬ (false = true) by decide)] at H; exact H
  clear H
  have H := H1
  clear H1
  simp only [Option.some.injEq, Prod.mk.injEq] at H
  obtain ⟨rfl, rfl⟩ := H
  go_enter Tryd.func18, Tryd.ntmps18
  go_wp2_with (first | ((with_reducible refine gate_dst (N := 1) rfl ?_); refine box_event ?hg (N := 1) ?hd (cs := #[.int .i64 a0_0, .slice A0_1 l0_1.length c0_1]) (t := 30) ?hr ?_; (case hd => rfl); (case hg => rfl); (case hr => first | (go_simp; done) | (go_simp; rfl)); intro gb539 hg w13 hbox hb; have n0_ := Aside0.mk (qak hB_ hb); have n1_ := Aside0.mk (hbox); have n2_ := Aside0.mk ((by rw [hg]; exact (qal hB_) : w.heap.size ≤ gb539)); have n3_ := n2_; clear HB; have HB := n0_; have BK539 := n1_; have GW539 := n2_; have GE539 := n3_; clear n0_ n1_ n2_ n3_; clear hb hbox hg; have hcz14_0 : w13.cell? ⟨gb539, 0, none⟩ = some (.int .i64 a0_0) := (qab BK539.out 0).trans rfl; have hcz14_1 : w13.cell? ⟨gb539, 1, none⟩ = some (.slice A0_1 l0_1.length c0_1) := (qab BK539.out 1).trans rfl; have hfz14_0 := qaf BK539.out 0; have hfz14_1 := qaf BK539.out 1) | ((with_reducible refine qao (f := 35) rfl ?_); refine goesL_ (some 5) rfl rfl Tryd.func35 (by kernel_rfl) rfl #[.agg #[.int .i64 a0_0, .slice A0_1 l0_1.length c0_1]] rfl mT_ ?_; (with_reducible refine (impl_IsParty.calls k a0_0 _ _ l0_1 false _ ?side1 ?side2 A2.out).mono ?_); (case side1 => repeat (first | exact (Kd.C_below HR0_1.out HB.out) | (with_reducible refine Kd.C_alloc ?_ _) | (with_reducible refine Kd.C_drewN ?_ _) | (with_reducible refine Kd.C_drew ?_))); (case side2 => exact HC0_1.out); rintro e w15 ⟨rfl, hb⟩; refine ⟨_, rfl, ?_⟩; have n0_ := Aside0.mk (qap (g := gb539) (o := .cells #[.int .i64 a0_0, .slice A0_1 l0_1.length c0_1] 30 (0, 0)) (uB_ BK539.out) hb); have n1_ := Aside0.mk (qak (hB1_ GE539.out) hb); clear BK539; clear HB; have BK539 := n0_; have HB := n1_; clear n0_ n1_; (try clear hb); (try clear hb2); (try clear hk); (try clear hi)))
  go_ret2
  exact ⟨_, by first | rfl | (simp [errW_none, errW_some] <;> rfl) | (simp [*, errW_none, errW_some] <;> rfl), by first | exact Kd.R_nil _ _ _ _ _ | exact Kd.N_nil _ _ _ _ _ | exact Kd.V_nil _ _ _ _ _ | exact Kd.Q_nil _ _ _ _ _ | exact Kd.S_nil _ _ _ _ _, by repeat (first | (with_reducible first | exact HB.out | apply qad | apply qaa | apply qac | refine qae ?_ GE539.out) | exact HB.out)⟩

end Go.Proofs.YtedfcbbklhfgcaaDoor.Q
namespace Go.Proofs.YtedfcbbklhfgcaaDoor.Q
open Go.RowKit Go.Proofs.YtedfcbbklhfgcaaDoorW.PrintWords Go.Proofs.YtedfcbbklhfgcaaDoorW.PrintLast Go.Proofs.YtedfcbbklhfgcaaDoorW.PrintMore
attribute [local go_sem] max2_int min2_int max_two min_two max_three min_three max_four min_four   -- for this text's walks alone
set_option linter.unusedVariables false
set_option linter.unusedSimpArgs false

/-! ### spec_TablesApart: function 17 -/
def spec_TablesApart.f (k : Nat) (a0_0 : Int) (l0_1 : List (S56)) : Option (List Int × Bool) := (spec_paGood.f k a0_0 l0_1).bind fun t500 => (if t500 = true then ((spec_taTables.f k a0_0 l0_1).bind fun bt501 => (some (bt501.1, bt501.2))) else (some (([] : List Int), false)))
theorem spec_TablesApart.mono : ∀ a0 a1 k, LeO (spec_TablesApart.f k a0 a1) (spec_TablesApart.f (k + 1) a0 a1) := by
 intro a0 a1 k
 unfold spec_TablesApart.f
 repeat' first
   | (with_reducible exact spec_paGood.mono _ _ _)
   | (with_reducible exact spec_taTables.mono _ _ _)
   | (with_reducible exact LeO.refl _)
   | (with_reducible exact LeO.none _)
   | (with_reducible refine LeO.ite ?_ ?_)
   | (with_reducible refine LeO.bind ?_ (fun _ => ?_))
   | exact spec_paGood.mono _ _ _
   | exact spec_taTables.mono _ _ _
   | exact LeO.none _
   | refine LeO.ite ?_ ?_
   | refine LeO.bind ?_ (fun _ => ?_)
set_option maxHeartbeats 8000000 in
set_option maxRecDepth 100000 in
theorem spec_TablesApart.calls (k : Nat) (a0_0 : Int) (A0_1 : Option Addr) (c0_1 : Nat) (l0_1 : List (S56)) (r1 : List Int) (r2 : Bool) (w : World) (hr0_1 : Kd.C k56 w A0_1 l0_1.length l0_1) (hc0_1 : l0_1.length ≤ c0_1) (h : spec_TablesApart.f k a0_0 l0_1 = some (r1, r2)) :
  Calls Tryd.prog 17 #[.agg #[.int .i64 a0_0, .slice A0_1 l0_1.length c0_1]] w fun e w' => ∃ v0_ : Value, e = .returned (.tuple #[v0_, .bool r2]) ∧ Kd.R (Kd.int .i64) 3 w' w.heap.size (fun _ => True) v0_ r1 ∧ Below w.heap.size w w' := by
 have hu30 := Tryd.underlying30
 have HR0_1 := Aside0.mk hr0_1
 have HC0_1 := Aside0.mk hc0_1
 clear hr0_1 hc0_1
 have HB := Aside0.mk (Below.refl w.heap.size w)
 have H : ((spec_paGood.f k a0_0 l0_1).bind fun t500 => (if t500 = true then ((spec_taTables.f k a0_0 l0_1).bind fun bt501 => (some (bt501.1, bt501.2))) else (some (([] : List Int), false)))) = some (r1, r2) := h
 clear h
 replace H := Option.bind_eq_some_iff.mp H
 obtain ⟨t500, A20, H⟩ := H
 replace H : (if t500 = true then ((spec_taTables.f k a0_0 l0_1).bind fun bt501 => (some (bt501.1, bt501.2))) else (some (([] : List Int), false))) = some (r1, r2) := H
 have A2 := Aside0.mk A20
 clear A20
 by_cases c3 : t500 = true
 ·subst c3
  have H1 : ((spec_taTables.f k a0_0 l0_1).bind fun bt501 => (some (bt501.1, bt501.2))) = some (r1, r2) := by rw [if_pos rfl] at H; exact H
  clear H
  have H := H1
  clear H1
  replace H := Option.bind_eq_some_iff.mp H
  obtain ⟨⟨t501, t504⟩, A40, H⟩ := H
  replace H : (some (t501, t504)) = some (r1, r2) := H
  have A4 := Aside0.mk A40
  clear A40
  simp only [Option.some.injEq, Prod.mk.injEq] at H
  obtain ⟨rfl, rfl⟩ := H
  go_enter Tryd.func17, Tryd.ntmps17
  go_wp2_with (first | ((with_reducible refine gate_dst (N := 1) rfl ?_); refine box_event ?hg (N := 1) ?hd (cs := #[.int .i64 a0_0, .slice A0_1 l0_1.length c0_1]) (t := 30) ?hr ?_; (case hd => rfl); (case hg => rfl); (case hr => first | (go_simp; done) | (go_simp; rfl)); intro gb499 hg w5 hbox hb; have n0_ := Aside0.mk (qak hB_ hb); have n1_ := Aside0.mk (hbox); have n2_ := Aside0.mk ((by rw [hg]; exact (qal hB_) : w.heap.size ≤ gb499)); have n3_ := n2_; clear HB; have HB := n0_; have BK499 := n1_; have GW499 := n2_; have GE499 := n3_; clear n0_ n1_ n2_ n3_; clear hb hbox hg; have hcz6_0 : w5.cell? ⟨gb499, 0, none⟩ = some (.int .i64 a0_0) := (qab BK499.out 0).trans rfl; have hcz6_1 : w5.cell? ⟨gb499, 1, none⟩ = some (.slice A0_1 l0_1.length c0_1) := (qab BK499.out 1).trans rfl; have hfz6_0 := qaf BK499.out 0; have hfz6_1 := qaf BK499.out 1) | ((with_reducible refine qao (f := 26) rfl ?_); refine goesL_ (some 5) rfl rfl Tryd.func26 (by kernel_rfl) rfl #[.agg #[.int .i64 a0_0, .slice A0_1 l0_1.length c0_1]] rfl mT_ ?_; (with_reducible refine (spec_paGood.calls k a0_0 _ _ l0_1 true _ ?side1 ?side2 A2.out).mono ?_); (case side1 => repeat (first | exact (Kd.C_below HR0_1.out HB.out) | (with_reducible refine Kd.C_alloc ?_ _) | (with_reducible refine Kd.C_drewN ?_ _) | (with_reducible refine Kd.C_drew ?_))); (case side2 => exact HC0_1.out); rintro e w7 ⟨rfl, hb⟩; refine ⟨_, rfl, ?_⟩; have n0_ := Aside0.mk (qap (g := gb499) (o := .cells #[.int .i64 a0_0, .slice A0_1 l0_1.length c0_1] 30 (0, 0)) (uB_ BK499.out) hb); have n1_ := Aside0.mk (qak (hB1_ GE499.out) hb); clear BK499; clear HB; have BK499 := n0_; have HB := n1_; clear n0_ n1_; (try clear hb); (try clear hb2); (try clear hk); (try clear hi); have hcz8_0 : w7.cell? ⟨gb499, 0, none⟩ = some (.int .i64 a0_0) := (qab BK499.out 0).trans rfl; have hcz8_1 : w7.cell? ⟨gb499, 1, none⟩ = some (.slice A0_1 l0_1.length c0_1) := (qab BK499.out 1).trans rfl; have hfz8_0 := qaf BK499.out 0; have hfz8_1 := qaf BK499.out 1) | ((with_reducible refine qao (f := 43) rfl ?_); refine goesL_ (some 8) rfl rfl Tryd.func43 (by kernel_rfl) rfl #[.agg #[.int .i64 a0_0, .slice A0_1 l0_1.length c0_1]] rfl mT_ ?_; (with_reducible refine (spec_taTables.calls k a0_0 _ _ l0_1 t501 t504 _ ?side1 ?side2 A4.out).mono ?_); (case side1 => repeat (first | exact (Kd.C_below HR0_1.out HB.out) | (with_reducible refine Kd.C_alloc ?_ _) | (with_reducible refine Kd.C_drewN ?_ _) | (with_reducible refine Kd.C_drew ?_))); (case side2 => exact HC0_1.out); rintro e w9 ⟨v502, rfl, ho0, hb⟩; refine ⟨_, rfl, ?_⟩; have n0_ := Aside0.mk (Kd.R_lower ho0 (qal (hB1_ GE499.out))); have n1_ := Aside0.mk (qap (g := gb499) (o := .cells #[.int .i64 a0_0, .slice A0_1 l0_1.length c0_1] 30 (0, 0)) (uB_ BK499.out) hb); have n2_ := Aside0.mk (qak (hB1_ GE499.out) hb); clear BK499; clear HB; have HO503 := n0_; have BK499 := n1_; have HB := n2_; clear n0_ n1_ n2_; (try clear hb); (try clear hb2); (try clear hk); (try clear hi); (try clear ho0)))
  go_ret2
  exact ⟨_, by first | rfl | (simp [errW_none, errW_some] <;> rfl) | (simp [*, errW_none, errW_some] <;> rfl), by (with_reducible repeat (first | apply Kd.qat | apply Kd.qas | apply Kd.R_drew)); exact HO503.out, by repeat (first | (with_reducible first | exact HB.out | apply qad | apply qaa | apply qac | refine qae ?_ GE499.out) | exact HB.out)⟩
 ·replace c3 := Bool.eq_false_iff.mpr c3
  subst c3
  have H1 : (some (([] : List Int), false)) = some (r1, r2) := by rw [if_neg (show ¬ (false = true) by decide)] at H; exact H
  clear H
  have H := H1
  clear H1
  simp only [Option.some.injEq, Prod.mk.injEq] at H
  obtain ⟨rfl, rfl⟩ := H
  go_enter Tryd.func17, Tryd.ntmps17
  go_wp2_with (first | ((with_reducible refine gate_dst (N := 1) rfl ?_); refine box_event ?hg (N := 1) ?hd (cs := #[.int .i64 a0_0, .slice A0_1 l0_1.length c0_1]) (t := 30) ?hr ?_; (case hd => rfl); (case hg => rfl); (case hr => first | (go_simp; done) | (go_simp; rfl)); intro gb499 hg w10 hbox hb; have n0_ := Aside0.mk (qak hB_ hb); have n1_ := Aside0.mk (hbox); have n2_ := Aside0.mk ((by rw [hg]; exact (qal hB_) : w.heap.size ≤ gb499)); have n3_ := n2_; clear HB; have HB := n0_; have BK499 := n1_; have GW499 := n2_; have GE499 := n3_; clear n0_ n1_ n2_ n3_; clear hb hbox hg; have hcz11_0 : w10.cell? ⟨gb499, 0, none⟩ = some (.int .i64 a0_0) := (qab BK499.out 0).trans rfl; have hcz11_1 : w10.cell? ⟨gb499, 1, none⟩ = some (.slice A0_1 l0_1.length c0_1) := (qab BK499.out 1).trans rfl; have hfz11_0 := qaf BK499.out 0; have hfz11_1 := qaf BK499.out 1) | ((with_reducible refine qao (f := 26) rfl ?_); refine goesL_ (some 5) rfl rfl Tryd.func26 (by kernel_rfl) rfl #[.agg #[.int .i64 a0_0, .slice A0_1 l0_1.length c0_1]] rfl mT_ ?_; (with_reducible refine (spec_paGood.calls k a0_0 _ _ l0_1 false _ ?side1 ?side2 A2.out).mono ?_); (case side1 => repeat (first | exact (Kd.C_below HR0_1.out HB.out) | (with_reducible refine Kd.C_alloc ?_ _) | (with_reducible refine Kd.C_drewN ?_ _) | (with_reducible refine Kd.C_drew ?_))); (case side2 => exact HC0_1.out); rintro e w12 ⟨rfl, hb⟩; refine ⟨_, rfl, ?_⟩; have n0_ := Aside0.mk (qap (g := gb499) (o := .cells #[.int .i64 a0_0, .slice A0_1 l0_1.length c0_1] 30 (0, 0)) (uB_ BK499.out) hb); have n1_ := Aside0.mk (qak (hB1_ GE499.out) hb); clear BK499; clear HB; have BK499 := n0_; have HB := n1_; clear n0_ n1_; (try clear hb); (try clear hb2); (try clear hk); (try clear hi)))
  go_ret2
  exact ⟨_, by first | rfl | (simp [errW_none, errW_some] <;> rfl) | (simp [*, errW_none, errW_some] <;> rfl), by first | exact Kd.R_nil _ _ _ _ _ | exact Kd.N_nil _ _ _ _ _ | exact Kd.V_nil _ _ _ _ _ | exact Kd.Q_nil _ _ _ _ _ | exact Kd.S_nil _ _ _ _ _, by repeat (first | (with_reducible first | exact HB.out | apply qad | apply qaa | apply qac | refine qae ?_ GE499.out) | exact HB.out)⟩

end Go.Proofs.YtedfcbbklhfgcaaDoor.Q
namespace Go.Proofs.YtedfcbbklhfgcaaDoor.Q
open Go.RowKit Go.Proofs.YtedfcbbklhfgcaaDoorW.PrintWords Go.Proofs.YtedfcbbklhfgcaaDoorW.PrintLast Go.Proofs.YtedfcbbklhfgcaaDoorW.PrintMore
attribute [local go_sem] max2_int min2_int max_two min_two max_three min_three max_four min_four   -- for this text's walks alone
set_option linter.unusedVariables false
set_option linter.unusedSimpArgs false

/-! ### laws_FnExactTablesApart: function 6 -/
mutual
def laws_FnExactTablesApart.j0 : Nat → List Int → Bool → List Int → Bool → Bool → Int → List (S70) → Int → List (S56) → Option (Bool)
 | 0, _, _, _, _, _, _, _, _, _ => none
 | k + 1, x4, x5, x7, x8, x40, x558000, x558001, x572000, x572001 => if x40 = true then (some false) else ((laws_toParty.f k x558000 x558001).bind fun bt577 => ((laws_eqParty.f k x572000 x572001 bt577.1 bt577.2).bind fun t581 => (if t581 = true then ((laws_markParty.f k x572000 x572001 1).bind fun bt582 => (if bt582.1 < 0 then (laws_FnExactTablesApart.j1 k x4 x5 x7 true x558000 x558001) else ((laws_eqIntS.f k x7 x4).bind fun t584 => (if t584 = true then (laws_FnExactTablesApart.j1 k x4 x5 x7 (x8 != x5) x558000 x558001) else (laws_FnExactTablesApart.j1 k x4 x5 x7 true x558000 x558001))))) else (some false))))
def laws_FnExactTablesApart.j1 : Nat → List Int → Bool → List Int → Bool → Int → List (S70) → Option (Bool)
 | 0, _, _, _, _, _, _ => none
 | k + 1, x4, x5, x7, x61, x558000, x558001 => if x61 = true then (some false) else ((laws_markIntS.f k x7 1).bind fun bt585 => ((laws_heldIntS.f k bt585.2 1).bind fun t587 => (if t587 < 0 then (some false) else (if t587 = bt585.1 then ((laws_toParty.f k x558000 x558001).bind fun bt588 => ((impl_TablesApart.f k bt588.1 bt588.2).bind fun bt592 => ((laws_eqIntS.f k bt592.1 x4).bind fun t596 => (if t596 = true then (laws_FnExactTablesApart.j2 k bt585.2 bt585.1 (bt592.2 != x5)) else (laws_FnExactTablesApart.j2 k bt585.2 bt585.1 true))))) else (some false)))))
def laws_FnExactTablesApart.j2 : Nat → List Int → Int → Bool → Option (Bool)
 | 0, _, _, _ => none
 | k + 1, x7, x10, x87 => if x87 = true then (some false) else ((laws_heldIntS.f k x7 1).bind fun t597 => (if t597 < 0 then (some false) else (if t597 = x10 then (some true) else (some false))))
end
def laws_FnExactTablesApart.f (k : Nat) (a0_0 : Int) (l0_1 : List (S70)) : Option (Bool) := (laws_szParty.f a0_0 l0_1 1048576).bind fun t558 => (if t558 < 0 then (some true) else ((laws_toParty.f k a0_0 l0_1).bind fun bt559 => ((spec_TablesApart.f k bt559.1 bt559.2).bind fun bt563 => ((laws_toParty.f k a0_0 l0_1).bind fun bt567 => ((impl_TablesApart.f k bt567.1 bt567.2).bind fun bt572 => ((laws_eqIntS.f k bt572.1 bt563.1).bind fun t576 => (if t576 = true then (laws_FnExactTablesApart.j0 k bt563.1 bt563.2 bt572.1 bt572.2 (bt572.2 != bt563.2) a0_0 l0_1 bt567.1 bt567.2) else (laws_FnExactTablesApart.j0 k bt563.1 bt563.2 bt572.1 bt572.2 true a0_0 l0_1 bt567.1 bt567.2))))))))
theorem laws_FnExactTablesApart.mono_l : ∀ k, (∀ y0 y1 y2 y3 y4 y5 y6 y7 y8, LeO (laws_FnExactTablesApart.j0 k y0 y1 y2 y3 y4 y5 y6 y7 y8) (laws_FnExactTablesApart.j0 (k + 1) y0 y1 y2 y3 y4 y5 y6 y7 y8)) ∧ (∀ y0 y1 y2 y3 y4 y5, LeO (laws_FnExactTablesApart.j1 k y0 y1 y2 y3 y4 y5) (laws_FnExactTablesApart.j1 (k + 1) y0 y1 y2 y3 y4 y5)) ∧ (∀ y0 y1 y2, LeO (laws_FnExactTablesApart.j2 k y0 y1 y2) (laws_FnExactTablesApart.j2 (k + 1) y0 y1 y2))
 | 0 => ⟨fun _ _ _ _ _ _ _ _ _ r h => by simp [laws_FnExactTablesApart.j0] at h, fun _ _ _ _ _ _ r h => by simp [laws_FnExactTablesApart.j1] at h, fun _ _ _ r h => by simp [laws_FnExactTablesApart.j2] at h⟩
 | k + 1 => by
  obtain ⟨ih0, ih1, ih2⟩ := laws_FnExactTablesApart.mono_l k
  refine ⟨?_, ?_, ?_⟩
  ·intro y0 y1 y2 y3 y4 y5 y6 y7 y8
   unfold laws_FnExactTablesApart.j0
   repeat' first
   | (with_reducible exact ih0 _ _ _ _ _ _ _ _ _)
   | (with_reducible exact ih1 _ _ _ _ _ _)
   | (with_reducible exact ih2 _ _ _)
   | (with_reducible exact impl_TablesApart.mono _ _ _)
   | (with_reducible exact laws_eqIntS.mono _ _ _)
   | (with_reducible exact laws_eqParty.mono _ _ _ _ _)
   | (with_reducible exact laws_heldIntS.mono _ _ _)
   | (with_reducible exact laws_markIntS.mono _ _ _)
   | (with_reducible exact laws_markParty.mono _ _ _ _)
   | (with_reducible exact laws_toParty.mono _ _ _)
   | (with_reducible exact spec_TablesApart.mono _ _ _)
   | (with_reducible exact LeO.refl _)
   | (with_reducible exact LeO.none _)
   | (with_reducible refine LeO.ite ?_ ?_)
   | (with_reducible refine LeO.bind ?_ (fun _ => ?_))
   | exact ih0 _ _ _ _ _ _ _ _ _
   | exact ih1 _ _ _ _ _ _
   | exact ih2 _ _ _
   | exact impl_TablesApart.mono _ _ _
   | exact laws_eqIntS.mono _ _ _
   | exact laws_eqParty.mono _ _ _ _ _
   | exact laws_heldIntS.mono _ _ _
   | exact laws_markIntS.mono _ _ _
   | exact laws_markParty.mono _ _ _ _
   | exact laws_toParty.mono _ _ _
   | exact spec_TablesApart.mono _ _ _
   | exact LeO.none _
   | refine LeO.ite ?_ ?_
   | refine LeO.bind ?_ (fun _ => ?_)
  ·intro y0 y1 y2 y3 y4 y5
   unfold laws_FnExactTablesApart.j1
   repeat' first
   | (with_reducible exact ih0 _ _ _ _ _ _ _ _ _)
   | (with_reducible exact ih1 _ _ _ _ _ _)
   | (with_reducible exact ih2 _ _ _)
   | (with_reducible exact impl_TablesApart.mono _ _ _)
   | (with_reducible exact laws_eqIntS.mono _ _ _)
   | (with_reducible exact laws_eqParty.mono _ _ _ _ _)
   | (with_reducible exact laws_heldIntS.mono _ _ _)
   | (with_reducible exact laws_markIntS.mono _ _ _)
   | (with_reducible exact laws_markParty.mono _ _ _ _)
   | (with_reducible exact laws_toParty.mono _ _ _)
   | (with_reducible exact spec_TablesApart.mono _ _ _)
   | (with_reducible exact LeO.refl _)
   | (with_reducible exact LeO.none _)
   | (with_reducible refine LeO.ite ?_ ?_)
   | (with_reducible refine LeO.bind ?_ (fun _ => ?_))
   | exact ih0 _ _ _ _ _ _ _ _ _
   | exact ih1 _ _ _ _ _ _
   | exact ih2 _ _ _
   | exact impl_TablesApart.mono _ _ _
   | exact laws_eqIntS.mono _ _ _
   | exact laws_eqParty.mono _ _ _ _ _
   | exact laws_heldIntS.mono _ _ _
   | exact laws_markIntS.mono _ _ _
   | exact laws_markParty.mono _ _ _ _
   | exact laws_toParty.mono _ _ _
   | exact spec_TablesApart.mono _ _ _
   | exact LeO.none _
   | refine LeO.ite ?_ ?_
   | refine LeO.bind ?_ (fun _ => ?_)
  ·intro y0 y1 y2
   unfold laws_FnExactTablesApart.j2
   repeat' first
   | (with_reducible exact ih0 _ _ _ _ _ _ _ _ _)
   | (with_reducible exact ih1 _ _ _ _ _ _)
   | (with_reducible exact ih2 _ _ _)
   | (with_reducible exact impl_TablesApart.mono _ _ _)
   | (with_reducible exact laws_eqIntS.mono _ _ _)
   | (with_reducible exact laws_eqParty.mono _ _ _ _ _)
   | (with_reducible exact laws_heldIntS.mono _ _ _)
   | (with_reducible exact laws_markIntS.mono _ _ _)
   | (with_reducible exact laws_markParty.mono _ _ _ _)
   | (with_reducible exact laws_toParty.mono _ _ _)
   | (with_reducible exact spec_TablesApart.mono _ _ _)
   | (with_reducible exact LeO.refl _)
   | (with_reducible exact LeO.none _)
   | (with_reducible refine LeO.ite ?_ ?_)
   | (with_reducible refine LeO.bind ?_ (fun _ => ?_))
   | exact ih0 _ _ _ _ _ _ _ _ _
   | exact ih1 _ _ _ _ _ _
   | exact ih2 _ _ _
   | exact impl_TablesApart.mono _ _ _
   | exact laws_eqIntS.mono _ _ _
   | exact laws_eqParty.mono _ _ _ _ _
   | exact laws_heldIntS.mono _ _ _
   | exact laws_markIntS.mono _ _ _
   | exact laws_markParty.mono _ _ _ _
   | exact laws_toParty.mono _ _ _
   | exact spec_TablesApart.mono _ _ _
   | exact LeO.none _
   | refine LeO.ite ?_ ?_
   | refine LeO.bind ?_ (fun _ => ?_)
theorem laws_FnExactTablesApart.mono : ∀ a0 a1 k, LeO (laws_FnExactTablesApart.f k a0 a1) (laws_FnExactTablesApart.f (k + 1) a0 a1) := by
 intro a0 a1 k
 obtain ⟨ih0, ih1, ih2⟩ := laws_FnExactTablesApart.mono_l k
 unfold laws_FnExactTablesApart.f
 repeat' first
   | (with_reducible exact ih0 _ _ _ _ _ _ _ _ _)
   | (with_reducible exact ih1 _ _ _ _ _ _)
   | (with_reducible exact ih2 _ _ _)
   | (with_reducible exact impl_TablesApart.mono _ _ _)
   | (with_reducible exact laws_eqIntS.mono _ _ _)
   | (with_reducible exact laws_eqParty.mono _ _ _ _ _)
   | (with_reducible exact laws_heldIntS.mono _ _ _)
   | (with_reducible exact laws_markIntS.mono _ _ _)
   | (with_reducible exact laws_markParty.mono _ _ _ _)
   | (with_reducible exact laws_toParty.mono _ _ _)
   | (with_reducible exact spec_TablesApart.mono _ _ _)
   | (with_reducible exact LeO.refl _)
   | (with_reducible exact LeO.none _)
   | (with_reducible refine LeO.ite ?_ ?_)
   | (with_reducible refine LeO.bind ?_ (fun _ => ?_))
   | exact ih0 _ _ _ _ _ _ _ _ _
   | exact ih1 _ _ _ _ _ _
   | exact ih2 _ _ _
   | exact impl_TablesApart.mono _ _ _
   | exact laws_eqIntS.mono _ _ _
   | exact laws_eqParty.mono _ _ _ _ _
   | exact laws_heldIntS.mono _ _ _
   | exact laws_markIntS.mono _ _ _
   | exact laws_markParty.mono _ _ _ _
   | exact laws_toParty.mono _ _ _
   | exact spec_TablesApart.mono _ _ _
   | exact LeO.none _
   | refine LeO.ite ?_ ?_
   | refine LeO.bind ?_ (fun _ => ?_)
set_option maxHeartbeats 8000000 in
set_option maxRecDepth 100000 in
theorem laws_FnExactTablesApart.calls (k : Nat) (a0_0 : Int) (A0_1 : Option Addr) (c0_1 : Nat) (l0_1 : List (S70)) (r : Bool) (w : World) (hG : Tab w) (hr0_1 : Kd.C k70 w A0_1 l0_1.length l0_1) (hc0_1 : l0_1.length ≤ c0_1) (h : laws_FnExactTablesApart.f k a0_0 l0_1 = some r) :
  Calls Tryd.prog 6 #[.agg #[.int .i64 a0_0, .slice A0_1 l0_1.length c0_1]] w fun e w' => e = .returned (.bool r) ∧ Below w.heap.size w w' := by
 have HG := Aside0.mk hG
 clear hG
 have hu24 := Tryd.underlying24
 have hu30 := Tryd.underlying30
 have HR0_1 := Aside0.mk hr0_1
 have HC0_1 := Aside0.mk hc0_1
 clear hr0_1 hc0_1
 have HB := Aside0.mk (Below.refl w.heap.size w)
 have H : ((laws_szParty.f a0_0 l0_1 1048576).bind fun t558 => (if t558 < 0 then (some true) else ((laws_toParty.f k a0_0 l0_1).bind fun bt559 => ((spec_TablesApart.f k bt559.1 bt559.2).bind fun bt563 => ((laws_toParty.f k a0_0 l0_1).bind fun bt567 => ((impl_TablesApart.f k bt567.1 bt567.2).bind fun bt572 => ((laws_eqIntS.f k bt572.1 bt563.1).bind fun t576 => (if t576 = true then (laws_FnExactTablesApart.j0 k bt563.1 bt563.2 bt572.1 bt572.2 (bt572.2 != bt563.2) a0_0 l0_1 bt567.1 bt567.2) else (laws_FnExactTablesApart.j0 k bt563.1 bt563.2 bt572.1 bt572.2 true a0_0 l0_1 bt567.1 bt567.2))))))))) = some r := h
 clear h
 replace H := Option.bind_eq_some_iff.mp H
 obtain ⟨t558, A20, H⟩ := H
 replace H : (if t558 < 0 then (some true) else ((laws_toParty.f k a0_0 l0_1).bind fun bt559 => ((spec_TablesApart.f k bt559.1 bt559.2).bind fun bt563 => ((laws_toParty.f k a0_0 l0_1).bind fun bt567 => ((impl_TablesApart.f k bt567.1 bt567.2).bind fun bt572 => ((laws_eqIntS.f k bt572.1 bt563.1).bind fun t576 => (if t576 = true then (laws_FnExactTablesApart.j0 k bt563.1 bt563.2 bt572.1 bt572.2 (bt572.2 != bt563.2) a0_0 l0_1 bt567.1 bt567.2) else (laws_FnExactTablesApart.j0 k bt563.1 bt563.2 bt572.1 bt572.2 true a0_0 l0_1 bt567.1 bt567.2)))))))) = some r := H
 have A2 := Aside0.mk A20
 clear A20
 by_cases c3 : t558 < 0
 ·rw [if_pos c3] at H
  have c3b0 : decide (t558 < 0) = true := decide_eq_true c3
  clear c3
  obtain rfl := Option.some.inj H
  go_enter Tryd.func6, Tryd.ntmps6
  go_wp2_with (first | ((with_reducible refine gate_dst (N := 1) rfl ?_); refine box_event ?hg (N := 1) ?hd (cs := #[.int .i64 a0_0, .slice A0_1 l0_1.length c0_1]) (t := 24) ?hr ?_; (case hd => rfl); (case hg => rfl); (case hr => first | (go_simp; done) | (go_simp; rfl)); intro gb557 hg w4 hbox hb; have n0_ := Aside0.mk (qak hB_ hb); have n1_ := Aside0.mk (hbox); have n2_ := Aside0.mk ((by rw [hg]; exact (qal hB_) : w.heap.size ≤ gb557)); have n3_ := n2_; clear HB; have HB := n0_; have BK557 := n1_; have GW557 := n2_; have GE557 := n3_; clear n0_ n1_ n2_ n3_; clear hb hbox hg; have hcz5_0 : w4.cell? ⟨gb557, 0, none⟩ = some (.int .i64 a0_0) := (qab BK557.out 0).trans rfl; have hcz5_1 : w4.cell? ⟨gb557, 1, none⟩ = some (.slice A0_1 l0_1.length c0_1) := (qab BK557.out 1).trans rfl; have hfz5_0 := qaf BK557.out 0; have hfz5_1 := qaf BK557.out 1) | ((with_reducible refine qao (f := 8) rfl ?_); refine goesL_ (some 16) rfl rfl Tryd.func8 (by kernel_rfl) rfl #[.agg #[.int .i64 a0_0, .slice A0_1 l0_1.length c0_1], .int .i64 1048576] rfl mT_ ?_; (with_reducible refine (laws_szParty.calls a0_0 _ _ l0_1 1048576 t558 _ ?side1 ?side2 A2.out).mono ?_); (case side1 => repeat (first | exact (Kd.C_below HR0_1.out HB.out) | (with_reducible refine Kd.C_alloc ?_ _) | (with_reducible refine Kd.C_drewN ?_ _) | (with_reducible refine Kd.C_drew ?_))); (case side2 => exact HC0_1.out); rintro e w6 ⟨rfl, hb⟩; refine ⟨_, rfl, ?_⟩; have n0_ := Aside0.mk (qap (g := gb557) (o := .cells #[.int .i64 a0_0, .slice A0_1 l0_1.length c0_1] 24 (0, 0)) (uB_ BK557.out) hb); have n1_ := Aside0.mk (qak (hB1_ GE557.out) hb); clear BK557; clear HB; have BK557 := n0_; have HB := n1_; clear n0_ n1_; (try clear hb); (try clear hb2); (try clear hk); (try clear hi)))
  go_ret
  exact ⟨by first | rfl | (simp [errW_none, errW_some] <;> rfl) | (simp [*, errW_none, errW_some] <;> rfl), by repeat (first | (with_reducible first | exact HB.out | apply qad | apply qaa | apply qac | refine qae ?_ GE557.out) | exact HB.out)⟩
 ·rw [if_neg c3] at H
  have c3b0 : decide (t558 < 0) = false := decide_eq_false c3
  clear c3
  replace H := Option.bind_eq_some_iff.mp H
  obtain ⟨⟨t559, t560⟩, A70, H⟩ := H
  replace H : ((spec_TablesApart.f k t559 t560).bind fun bt563 => ((laws_toParty.f k a0_0 l0_1).bind fun bt567 => ((impl_TablesApart.f k bt567.1 bt567.2).bind fun bt572 => ((laws_eqIntS.f k bt572.1 bt563.1).bind fun t576 => (if t576 = true then (laws_FnExactTablesApart.j0 k bt563.1 bt563.2 bt572.1 bt572.2 (bt572.2 != bt563.2) a0_0 l0_1 bt567.1 bt567.2) else (laws_FnExactTablesApart.j0 k bt563.1 bt563.2 bt572.1 bt572.2 true a0_0 l0_1 bt567.1 bt567.2)))))) = some r := H
  have A7 := Aside0.mk A70
  clear A70
  replace H := Option.bind_eq_some_iff.mp H
  obtain ⟨⟨t563, t566⟩, A80, H⟩ := H
  replace H : ((laws_toParty.f k a0_0 l0_1).bind fun bt567 => ((impl_TablesApart.f k bt567.1 bt567.2).bind fun bt572 => ((laws_eqIntS.f k bt572.1 t563).bind fun t576 => (if t576 = true then (laws_FnExactTablesApart.j0 k t563 t566 bt572.1 bt572.2 (bt572.2 != t566) a0_0 l0_1 bt567.1 bt567.2) else (laws_FnExactTablesApart.j0 k t563 t566 bt572.1 bt572.2 true a0_0 l0_1 bt567.1 bt567.2))))) = some r := H
  have A8 := Aside0.mk A80
  clear A80
  replace H := Option.bind_eq_some_iff.mp H
  obtain ⟨⟨t567, t568⟩, A90, H⟩ := H
  replace H : ((impl_TablesApart.f k t567 t568).bind fun bt572 => ((laws_eqIntS.f k bt572.1 t563).bind fun t576 => (if t576 = true then (laws_FnExactTablesApart.j0 k t563 t566 bt572.1 bt572.2 (bt572.2 != t566) a0_0 l0_1 t567 t568) else (laws_FnExactTablesApart.j0 k t563 t566 bt572.1 bt572.2 true a0_0 l0_1 t567 t568)))) = some r := H
  have A9 := Aside0.mk A90
  clear A90
  replace H := Option.bind_eq_some_iff.mp H
  obtain ⟨⟨t572, t575⟩, A100, H⟩ := H
  replace H : ((laws_eqIntS.f k t572 t563).bind fun t576 => (if t576 = true then (laws_FnExactTablesApart.j0 k t563 t566 t572 t575 (t575 != t566) a0_0 l0_1 t567 t568) else (laws_FnExactTablesApart.j0 k t563 t566 t572 t575 true a0_0 l0_1 t567 t568))) = some r := H
  have A10 := Aside0.mk A100
  clear A100
  have HC11 := Aside0.mk H
  clear H
  go_enter Tryd.func6, Tryd.ntmps6
  go_upto_region 8 with (first | ((with_reducible refine gate_dst (N := 1) rfl ?_); refine box_event ?hg (N := 1) ?hd (cs := #[.int .i64 a0_0, .slice A0_1 l0_1.length c0_1]) (t := 24) ?hr ?_; (case hd => rfl); (case hg => rfl); (case hr => first | (go_simp; done) | (go_simp; rfl)); intro gb557 hg w12 hbox hb; have n0_ := Aside0.mk (qak hB_ hb); have n1_ := Aside0.mk (hbox); have n2_ := Aside0.mk ((by rw [hg]; exact (qal hB_) : w.heap.size ≤ gb557)); have n3_ := n2_; clear HB; have HB := n0_; have BK557 := n1_; have GW557 := n2_; have GE557 := n3_; clear n0_ n1_ n2_ n3_; clear hb hbox hg; have hcz13_0 : w12.cell? ⟨gb557, 0, none⟩ = some (.int .i64 a0_0) := (qab BK557.out 0).trans rfl; have hcz13_1 : w12.cell? ⟨gb557, 1, none⟩ = some (.slice A0_1 l0_1.length c0_1) := (qab BK557.out 1).trans rfl; have hfz13_0 := qaf BK557.out 0; have hfz13_1 := qaf BK557.out 1) | ((with_reducible refine qao (f := 8) rfl ?_); refine goesL_ (some 16) rfl rfl Tryd.func8 (by kernel_rfl) rfl #[.agg #[.int .i64 a0_0, .slice A0_1 l0_1.length c0_1], .int .i64 1048576] rfl mT_ ?_; (with_reducible refine (laws_szParty.calls a0_0 _ _ l0_1 1048576 t558 _ ?side1 ?side2 A2.out).mono ?_); (case side1 => repeat (first | exact (Kd.C_below HR0_1.out HB.out) | (with_reducible refine Kd.C_alloc ?_ _) | (with_reducible refine Kd.C_drewN ?_ _) | (with_reducible refine Kd.C_drew ?_))); (case side2 => exact HC0_1.out); rintro e w14 ⟨rfl, hb⟩; refine ⟨_, rfl, ?_⟩; have n0_ := Aside0.mk (qap (g := gb557) (o := .cells #[.int .i64 a0_0, .slice A0_1 l0_1.length c0_1] 24 (0, 0)) (uB_ BK557.out) hb); have n1_ := Aside0.mk (qak (hB1_ GE557.out) hb); clear BK557; clear HB; have BK557 := n0_; have HB := n1_; clear n0_ n1_; (try clear hb); (try clear hb2); (try clear hk); (try clear hi); have hcz15_0 : w14.cell? ⟨gb557, 0, none⟩ = some (.int .i64 a0_0) := (qab BK557.out 0).trans rfl; have hcz15_1 : w14.cell? ⟨gb557, 1, none⟩ = some (.slice A0_1 l0_1.length c0_1) := (qab BK557.out 1).trans rfl; have hfz15_0 := qaf BK557.out 0; have hfz15_1 := qaf BK557.out 1) | ((with_reducible refine qao (f := 10) rfl ?_); refine goesL_ (some 21) rfl rfl Tryd.func10 (by kernel_rfl) rfl #[.agg #[.int .i64 a0_0, .slice A0_1 l0_1.length c0_1]] rfl mT_ ?_; (with_reducible refine (laws_toParty.calls k a0_0 _ _ l0_1 t559 t560 _ ?side1 ?side2 A7.out).mono ?_); (case side1 => repeat (first | exact (Kd.C_below HR0_1.out HB.out) | (with_reducible refine Kd.C_alloc ?_ _) | (with_reducible refine Kd.C_drewN ?_ _) | (with_reducible refine Kd.C_drew ?_))); (case side2 => exact HC0_1.out); rintro e w16 ⟨v561, rfl, ho0, hb⟩; refine ⟨_, rfl, ?_⟩; have n0_ := Aside0.mk (Kd.R_lower ho0 (qal (hB1_ GE557.out))); have n1_ := Aside0.mk (qap (g := gb557) (o := .cells #[.int .i64 a0_0, .slice A0_1 l0_1.length c0_1] 24 (0, 0)) (uB_ BK557.out) hb); have n2_ := Aside0.mk (qak (hB1_ GE557.out) hb); clear BK557; clear HB; have HO562 := n0_; have BK557 := n1_; have HB := n2_; clear n0_ n1_ n2_; (try clear hb); (try clear hb2); (try clear hk); (try clear hi); (try clear ho0); obtain ⟨Ao17, co17, eo17⟩ := Kd.R_slice HO562.out; subst eo17) | ((with_reducible refine qao (f := 17) rfl ?_); refine goesL_ (some 22) rfl rfl Tryd.func17 (by kernel_rfl) rfl #[.agg #[.int .i64 t559, .slice Ao17 t560.length co17]] rfl mT_ ?_; (with_reducible refine (spec_TablesApart.calls k t559 _ _ t560 t563 t566 _ ?side1 ?side2 A8.out).mono ?_); (case side1 => repeat (first | exact (Kd.R_reads' HO562.out).2.2 | (with_reducible refine Kd.C_alloc ?_ _) | (with_reducible refine Kd.C_drewN ?_ _) | (with_reducible refine Kd.C_drew ?_))); (case side2 => exact (Kd.R_reads' HO562.out).2.1); rintro e w18 ⟨v564, rfl, ho0, hb⟩; refine ⟨_, rfl, ?_⟩; have n0_ := Aside0.mk (Kd.R_below (uR_ HO562.out) hb); have n1_ := Aside0.mk (Kd.R_lower ho0 (qal (hB1_ GE557.out))); have n2_ := Aside0.mk (qap (g := gb557) (o := .cells #[.int .i64 a0_0, .slice A0_1 l0_1.length c0_1] 24 (0, 0)) (uB_ BK557.out) hb); have n3_ := Aside0.mk (qak (hB1_ GE557.out) hb); clear HO562; clear BK557; clear HB; have HO562 := n0_; have HO565 := n1_; have BK557 := n2_; have HB := n3_; clear n0_ n1_ n2_ n3_; (try clear hb); (try clear hb2); (try clear hk); (try clear hi); (try clear ho0); have hcz19_0 : w18.cell? ⟨gb557, 0, none⟩ = some (.int .i64 a0_0) := (qab BK557.out 0).trans rfl; have hcz19_1 : w18.cell? ⟨gb557, 1, none⟩ = some (.slice A0_1 l0_1.length c0_1) := (qab BK557.out 1).trans rfl; have hfz19_0 := qaf BK557.out 0; have hfz19_1 := qaf BK557.out 1) | ((with_reducible refine qao (f := 10) rfl ?_); refine goesL_ (some 26) rfl rfl Tryd.func10 (by kernel_rfl) rfl #[.agg #[.int .i64 a0_0, .slice A0_1 l0_1.length c0_1]] rfl mT_ ?_; (with_reducible refine (laws_toParty.calls k a0_0 _ _ l0_1 t567 t568 _ ?side1 ?side2 A9.out).mono ?_); (case side1 => repeat (first | exact (Kd.C_below HR0_1.out HB.out) | (with_reducible refine Kd.C_alloc ?_ _) | (with_reducible refine Kd.C_drewN ?_ _) | (with_reducible refine Kd.C_drew ?_))); (case side2 => exact HC0_1.out); rintro e w20 ⟨v569, rfl, ho0, hb⟩; refine ⟨_, rfl, ?_⟩; have n0_ := Aside0.mk (Kd.R_elder' (uR_ HO562.out) (Kd.R_base ho0) hb); have n1_ := Aside0.mk (Kd.R_below (uR_ HO565.out) hb); have n2_ := Aside0.mk (Kd.R_lower (Kd.R_new' ho0 (Kd.R_lt (uR_ HO562.out))) (qal (hB1_ GE557.out))); have n3_ := Aside0.mk (qap (g := gb557) (o := .cells #[.int .i64 a0_0, .slice A0_1 l0_1.length c0_1] 24 (0, 0)) (uB_ BK557.out) hb); have n4_ := Aside0.mk (qak (hB1_ GE557.out) hb); clear HO562; clear HO565; clear BK557; clear HB; have HO562 := n0_; have HO565 := n1_; have HO570 := n2_; have BK557 := n3_; have HB := n4_; clear n0_ n1_ n2_ n3_ n4_; (try clear hb); (try clear hb2); (try clear hk); (try clear hi); (try clear ho0)) | ((with_reducible refine gate_dst (N := 6) rfl ?_); refine box_event ?hg (N := 6) ?hd (cs := #[.int .i64 0, .slice none 0 0]) (t := 30) ?hr ?_; (case hd => rfl); (case hg => rfl); (case hr => first | (go_simp; done) | (go_simp; rfl)); intro gb571 hg w21 hbox hb; have n0_ := Aside0.mk (Kd.R_below (uR_ HO562.out) hb); have n1_ := Aside0.mk (Kd.R_below (uR_ HO565.out) hb); have n2_ := Aside0.mk (Kd.R_below (uR_ HO570.out) hb); have n3_ := Aside0.mk (qap (g := gb557) (o := .cells #[.int .i64 a0_0, .slice A0_1 l0_1.length c0_1] 24 (0, 0)) (uB_ BK557.out) hb); have n4_ := Aside0.mk (qak (hB1_ GE557.out) hb); have n5_ := Aside0.mk (hbox); have n6_ := Aside0.mk ((by rw [hg]; exact (qal (hB1_ GE557.out)) : w.heap.size ≤ gb571)); have n7_ := n6_; have n8_ := Aside0.mk ((by rw [hg]; exact Nat.ne_of_lt (blk_lt (g := gb557) (o := .cells #[.int .i64 a0_0, .slice A0_1 l0_1.length c0_1] 24 (0, 0)) (uB_ BK557.out)) : gb557 ≠ gb571)); have n9_ := Aside0.mk n8_.out.symm; clear HO562; clear HO565; clear HO570; clear BK557; clear HB; have HO562 := n0_; have HO565 := n1_; have HO570 := n2_; have BK557 := n3_; have HB := n4_; have BK571 := n5_; have GW571 := n6_; have GE571 := n7_; have NB557_571 := n8_; have NB571_557 := n9_; clear n0_ n1_ n2_ n3_ n4_ n5_ n6_ n7_ n8_ n9_; clear hb hbox hg; have hnb22 := NB571_557.out; have hnc22 := NB557_571.out; have hcz23_0 : w21.cell? ⟨gb571, 0, none⟩ = some (.int .i64 0) := (qab BK571.out 0).trans rfl; have hcz23_1 : w21.cell? ⟨gb571, 1, none⟩ = some (.slice none 0 0) := (qab BK571.out 1).trans rfl; have hfz23_0 := qaf BK571.out 0; have hfz23_1 := qaf BK571.out 1; obtain ⟨Ao24, co24, eo24⟩ := Kd.R_slice HO570.out; subst eo24) | ((with_reducible refine qao (f := 18) rfl ?_); refine goesL_ (some 29) rfl rfl Tryd.func18 (by kernel_rfl) rfl #[.agg #[.int .i64 t567, .slice Ao24 t568.length co24]] rfl mT_ ?_; (with_reducible refine (impl_TablesApart.calls k t567 _ _ t568 t572 t575 _ ?sideG ?side1 ?side2 A10.out).mono ?_); (case sideG => first | exact HG.out | exact Tab.below HG.out (hB2_ GE557.out GE571.out)); (case side1 => refine (Kd.R_reads' (e := 56) (base := w.heap.size) (ok := fun k_ => (True ∧ some k_ ≠ (.slice Ao17 t560.length co17 : Value).ownBlock)) (n := t568.length) (c := co24) ?_).2.2; exact (by (with_reducible repeat (first | apply Kd.qat | apply Kd.qas | apply Kd.R_drew)); exact (Kd.R_mono (Kd.R_far (p := ⟨gb571, 1, none⟩) (Kd.R_far (p := ⟨gb571, 0, none⟩) (Kd.R_types HO570.out BK571.out (by decide)) (fun _ hk => hk.2) (.int .i64 t567)) (fun _ hk => hk.2) (.slice Ao24 t568.length co24)) (fun _ h_ => h_.1)))); (case side2 => exact (Kd.R_reads' HO570.out).2.1); rintro e w25 ⟨v573, rfl, ho0, hb⟩; refine ⟨_, rfl, ?_⟩; have n0_ := Aside0.mk (Kd.R_below (by (with_reducible repeat (first | apply Kd.qat | apply Kd.qas | apply Kd.R_drew)); exact (Kd.R_mono (Kd.R_far (p := ⟨gb571, 1, none⟩) (Kd.R_far (p := ⟨gb571, 0, none⟩) (Kd.R_types HO562.out BK571.out (by decide)) (fun _ hk => hk.2) (.int .i64 t567)) (fun _ hk => hk.2) (.slice Ao24 t568.length co24)) (fun _ h_ => h_.1))) hb); have n1_ := Aside0.mk (Kd.R_elder' (by (with_reducible repeat (first | apply Kd.qat | apply Kd.qas | apply Kd.R_drew)); exact (Kd.R_mono (Kd.R_far (p := ⟨gb571, 1, none⟩) (Kd.R_far (p := ⟨gb571, 0, none⟩) (Kd.R_types HO565.out BK571.out (by decide)) (fun _ hk => hk.2) (.int .i64 t567)) (fun _ hk => hk.2) (.slice Ao24 t568.length co24)) (fun _ h_ => h_.1))) (Kd.R_base ho0) hb); have n2_ := Aside0.mk (Kd.R_below (by (with_reducible repeat (first | apply Kd.qat | apply Kd.qas | apply Kd.R_drew)); exact (Kd.R_mono (Kd.R_far (p := ⟨gb571, 1, none⟩) (Kd.R_far (p := ⟨gb571, 0, none⟩) (Kd.R_types HO570.out BK571.out (by decide)) (fun _ hk => hk.2) (.int .i64 t567)) (fun _ hk => hk.2) (.slice Ao24 t568.length co24)) (fun _ h_ => h_.1))) hb); have n3_ := Aside0.mk (Kd.R_lower (Kd.R_new' ho0 (Kd.R_lt (by (with_reducible repeat (first | apply Kd.qat | apply Kd.qas | apply Kd.R_drew)); exact (Kd.R_mono (Kd.R_far (p := ⟨gb571, 1, none⟩) (Kd.R_far (p := ⟨gb571, 0, none⟩) (Kd.R_types HO565.out BK571.out (by decide)) (fun _ hk => hk.2) (.int .i64 t567)) (fun _ hk => hk.2) (.slice Ao24 t568.length co24)) (fun _ h_ => h_.1))))) (qal (hB2_ GE557.out GE571.out))); have n4_ := Aside0.mk (qap (g := gb557) (o := .cells #[.int .i64 a0_0, .slice A0_1 l0_1.length c0_1] 24 (0, 0)) (by (with_reducible repeat (first | refine qah ?_ _ | refine qaj ?_ | refine qai ?_ _)); refine blk_far ?_ NB557_571.out _; (with_reducible repeat (first | refine qah ?_ _ | refine qaj ?_ | refine qai ?_ _)); refine blk_far ?_ NB557_571.out _; (with_reducible repeat (first | refine qah ?_ _ | refine qaj ?_ | refine qai ?_ _)); exact BK557.out) hb); have n5_ := Aside0.mk (qap (g := gb571) (o := .cells #[.int .i64 t567, .slice Ao24 t568.length co24] 30 (0, 0)) (by (with_reducible repeat (first | refine qah ?_ _ | refine qaj ?_ | refine qai ?_ _)); refine blk_put (cs := #[.int .i64 t567, .slice none 0 0]) ?_ 1 _ rfl; (with_reducible repeat (first | refine qah ?_ _ | refine qaj ?_ | refine qai ?_ _)); refine blk_put (cs := #[.int .i64 0, .slice none 0 0]) ?_ 0 _ rfl; (with_reducible repeat (first | refine qah ?_ _ | refine qaj ?_ | refine qai ?_ _)); exact BK571.out) hb); have n6_ := Aside0.mk (qak (hB2_ GE557.out GE571.out) hb); clear HO562; clear HO565; clear HO570; clear BK557; clear BK571; clear HB; have HO562 := n0_; have HO565 := n1_; have HO570 := n2_; have HO574 := n3_; have BK557 := n4_; have BK571 := n5_; have HB := n6_; clear n0_ n1_ n2_ n3_ n4_ n5_ n6_; (try clear hb); (try clear hb2); (try clear hk); (try clear hi); (try clear ho0)))
  (try simp only [Act.put, sP_])
  go_cut [40] (fun v40 wc => ∃ (kq : Nat) (x40_10 : Bool), v40 = .bool x40_10 ∧ Aside0 (laws_FnExactTablesApart.j0 kq t563 t566 t572 t575 x40_10 a0_0 l0_1 t567 t568 = some r) ∧ Aside0 (kq ≤ k) ∧ Aside0 (Kd.R (Kd.int .i64) 3 wc w.heap.size (fun k_ => some k_ ≠ (v573 : Value).ownBlock) v564 t563) ∧ Aside0 (Kd.R (Kd.int .i64) 3 wc w.heap.size (fun k_ => some k_ ≠ (v564 : Value).ownBlock) v573 t572) ∧ Aside0 (Kd.R k56 56 wc w.heap.size (fun _ => True) (.slice Ao24 t568.length co24) t568) ∧ Aside0 (wc.heap[gb557]? = some (.cells #[.int .i64 a0_0, (.slice A0_1 l0_1.length c0_1)] 24 (0, 0))) ∧ Aside0 (wc.heap[gb571]? = some (.cells #[.int .i64 t567, (.slice Ao24 t568.length co24)] 30 (0, 0))) ∧ Aside0 (Below w.heap.size w wc))
  case first =>
   have H := HC11.out
   clear HC11
   replace H := Option.bind_eq_some_iff.mp H
   obtain ⟨t576, A260, H⟩ := H
   replace H : (if t576 = true then (laws_FnExactTablesApart.j0 k t563 t566 t572 t575 (t575 != t566) a0_0 l0_1 t567 t568) else (laws_FnExactTablesApart.j0 k t563 t566 t572 t575 true a0_0 l0_1 t567 t568)) = some r := H
   have A26 := Aside0.mk A260
   clear A260
   by_cases c27 : t576 = true
   ·subst c27
    have H1 : (laws_FnExactTablesApart.j0 k t563 t566 t572 t575 (t575 != t566) a0_0 l0_1 t567 t568) = some r := by rw [if_pos rfl] at H; exact H
    clear H
    have H := H1
    clear H1
    have H' := Aside0.mk H
    clear H
    obtain ⟨Ao28, co28, eo28⟩ := Kd.R_slice HO574.out
    subst eo28
    obtain ⟨Ao29, co29, eo29⟩ := Kd.R_slice HO565.out
    subst eo29
    go_wp2_with (first | ((with_reducible refine qao (f := 19) rfl ?_); refine goesL_ (some 34) rfl rfl Tryd.func19 (by kernel_rfl) rfl #[.slice Ao28 t572.length co28, .slice Ao29 t563.length co29] rfl mT_ ?_; (with_reducible refine (laws_eqIntS.calls k _ _ t572 _ _ t563 true _ ?side1 ?side2 ?side3 ?side4 A26.out).mono ?_); (case side1 => repeat (first | exact (Kd.R_reads' HO574.out).2.2 | (with_reducible refine Kd.C_alloc ?_ _) | (with_reducible refine Kd.C_drewN ?_ _) | (with_reducible refine Kd.C_drew ?_))); (case side2 => exact (Kd.R_reads' HO574.out).2.1); (case side3 => repeat (first | exact (Kd.R_reads' HO565.out).2.2 | (with_reducible refine Kd.C_alloc ?_ _) | (with_reducible refine Kd.C_drewN ?_ _) | (with_reducible refine Kd.C_drew ?_))); (case side4 => exact (Kd.R_reads' HO565.out).2.1); rintro e w' ⟨rfl, ⟨nd, rfl⟩⟩; refine ⟨_, rfl, ?_⟩))
    go_meet
    case rel => exact ⟨_, ((t575 != t566)), rS_, H', ⟨by first | omega | exact Nat.le_refl _⟩, ⟨by (with_reducible repeat (first | apply Kd.qat | apply Kd.qas | apply Kd.R_drew)); exact Kd.R_mono HO565.out (fun _ hk => hk.2)⟩, ⟨by (with_reducible repeat (first | apply Kd.qat | apply Kd.qas | apply Kd.R_drew)); exact Kd.R_mono HO574.out (fun _ hk => hk.2)⟩, ⟨by (with_reducible repeat (first | apply Kd.qat | apply Kd.qas | apply Kd.R_drew)); exact Kd.R_mono HO570.out (fun _ hk => trivial)⟩, ⟨by (with_reducible repeat (first | refine qah ?_ _ | refine qaj ?_ | refine qai ?_ _)); exact BK557.out⟩, ⟨by (with_reducible repeat (first | refine qah ?_ _ | refine qaj ?_ | refine qai ?_ _)); exact BK571.out⟩, ⟨by repeat (first | (with_reducible first | exact HB.out | apply qad | apply qaa | apply qac | refine qae ?_ GE557.out | refine qae ?_ GE571.out) | exact HB.out)⟩⟩
   ·replace c27 := Bool.eq_false_iff.mpr c27
    subst c27
    have H1 : (laws_FnExactTablesApart.j0 k t563 t566 t572 t575 true a0_0 l0_1 t567 t568) = some r := by rw [if_neg (show ¬ (false = true) by decide)] at H; exact H
    clear H
    have H := H1
    clear H1
    have H' := Aside0.mk H
    clear H
    obtain ⟨Ao30, co30, eo30⟩ := Kd.R_slice HO574.out
    subst eo30
    obtain ⟨Ao31, co31, eo31⟩ := Kd.R_slice HO565.out
    subst eo31
    go_wp2_with (first | ((with_reducible refine qao (f := 19) rfl ?_); refine goesL_ (some 34) rfl rfl Tryd.func19 (by kernel_rfl) rfl #[.slice Ao30 t572.length co30, .slice Ao31 t563.length co31] rfl mT_ ?_; (with_reducible refine (laws_eqIntS.calls k _ _ t572 _ _ t563 false _ ?side1 ?side2 ?side3 ?side4 A26.out).mono ?_); (case side1 => repeat (first | exact (Kd.R_reads' HO574.out).2.2 | (with_reducible refine Kd.C_alloc ?_ _) | (with_reducible refine Kd.C_drewN ?_ _) | (with_reducible refine Kd.C_drew ?_))); (case side2 => exact (Kd.R_reads' HO574.out).2.1); (case side3 => repeat (first | exact (Kd.R_reads' HO565.out).2.2 | (with_reducible refine Kd.C_alloc ?_ _) | (with_reducible refine Kd.C_drewN ?_ _) | (with_reducible refine Kd.C_drew ?_))); (case side4 => exact (Kd.R_reads' HO565.out).2.1); rintro e w' ⟨rfl, ⟨nd, rfl⟩⟩; refine ⟨_, rfl, ?_⟩))
    go_meet
    case rel => exact ⟨_, (true), rS_, H', ⟨by first | omega | exact Nat.le_refl _⟩, ⟨by (with_reducible repeat (first | apply Kd.qat | apply Kd.qas | apply Kd.R_drew)); exact Kd.R_mono HO565.out (fun _ hk => hk.2)⟩, ⟨by (with_reducible repeat (first | apply Kd.qat | apply Kd.qas | apply Kd.R_drew)); exact Kd.R_mono HO574.out (fun _ hk => hk.2)⟩, ⟨by (with_reducible repeat (first | apply Kd.qat | apply Kd.qas | apply Kd.R_drew)); exact Kd.R_mono HO570.out (fun _ hk => trivial)⟩, ⟨by (with_reducible repeat (first | refine qah ?_ _ | refine qaj ?_ | refine qai ?_ _)); exact BK557.out⟩, ⟨by (with_reducible repeat (first | refine qah ?_ _ | refine qaj ?_ | refine qai ?_ _)); exact BK571.out⟩, ⟨by repeat (first | (with_reducible first | exact HB.out | apply qad | apply qaa | apply qac | refine qae ?_ GE557.out | refine qae ?_ GE571.out) | exact HB.out)⟩⟩
  case rest =>
   clear HC11
   obtain ⟨kq, x40_10, rfl, HA, HJ10, HO_4, HO_7, HO_572001, BK557, BK571, HB⟩ := hcut
   cases kq with
   | zero => exact absurd HA.out (by simp [laws_FnExactTablesApart.j0])
   | succ kj10 =>
    have H := HA.out
    clear HA
    simp only [laws_FnExactTablesApart.j0] at H
    by_cases c32 : x40_10 = true
    ·subst c32
     have H1 : (some false) = some r := by rw [if_pos rfl] at H; exact H
     clear H
     have H := H1
     clear H1
     obtain rfl := Option.some.inj H
     go_wp2
     go_ret
     exact ⟨by first | rfl | (simp [errW_none, errW_some] <;> rfl) | (simp [*, errW_none, errW_some] <;> rfl), by repeat (first | (with_reducible first | exact HB.out | apply qad | apply qaa | apply qac | refine qae ?_ GE557.out | refine qae ?_ GE571.out) | exact HB.out)⟩
    ·replace c32 := Bool.eq_false_iff.mpr c32
     subst c32
     have H1 : ((laws_toParty.f kj10 a0_0 l0_1).bind fun bt577 => ((laws_eqParty.f kj10 t567 t568 bt577.1 bt577.2).bind fun t581 => (if t581 = true then ((laws_markParty.f kj10 t567 t568 1).bind fun bt582 => (if bt582.1 < 0 then (laws_FnExactTablesApart.j1 kj10 t563 t566 t572 true a0_0 l0_1) else ((laws_eqIntS.f kj10 t572 t563).bind fun t584 => (if t584 = true then (laws_FnExactTablesApart.j1 kj10 t563 t566 t572 (t575 != t566) a0_0 l0_1) else (laws_FnExactTablesApart.j1 kj10 t563 t566 t572 true a0_0 l0_1))))) else (some false)))) = some r := by rw [if_neg (show ¬ (false = true) by decide)] at H; exact H
     clear H
     have H := H1
     clear H1
     replace H := Option.bind_eq_some_iff.mp H
     obtain ⟨⟨t577, t578⟩, A330, H⟩ := H
     replace H : ((laws_eqParty.f kj10 t567 t568 t577 t578).bind fun t581 => (if t581 = true then ((laws_markParty.f kj10 t567 t568 1).bind fun bt582 => (if bt582.1 < 0 then (laws_FnExactTablesApart.j1 kj10 t563 t566 t572 true a0_0 l0_1) else ((laws_eqIntS.f kj10 t572 t563).bind fun t584 => (if t584 = true then (laws_FnExactTablesApart.j1 kj10 t563 t566 t572 (t575 != t566) a0_0 l0_1) else (laws_FnExactTablesApart.j1 kj10 t563 t566 t572 true a0_0 l0_1))))) else (some false))) = some r := H
     have A33 := Aside0.mk A330
     clear A330
     replace H := Option.bind_eq_some_iff.mp H
     obtain ⟨t581, A340, H⟩ := H
     replace H : (if t581 = true then ((laws_markParty.f kj10 t567 t568 1).bind fun bt582 => (if bt582.1 < 0 then (laws_FnExactTablesApart.j1 kj10 t563 t566 t572 true a0_0 l0_1) else ((laws_eqIntS.f kj10 t572 t563).bind fun t584 => (if t584 = true then (laws_FnExactTablesApart.j1 kj10 t563 t566 t572 (t575 != t566) a0_0 l0_1) else (laws_FnExactTablesApart.j1 kj10 t563 t566 t572 true a0_0 l0_1))))) else (some false)) = some r := H
     have A34 := Aside0.mk A340
     clear A340
     by_cases c35 : t581 = true
     ·subst c35
      have H1 : ((laws_markParty.f kj10 t567 t568 1).bind fun bt582 => (if bt582.1 < 0 then (laws_FnExactTablesApart.j1 kj10 t563 t566 t572 true a0_0 l0_1) else ((laws_eqIntS.f kj10 t572 t563).bind fun t584 => (if t584 = true then (laws_FnExactTablesApart.j1 kj10 t563 t566 t572 (t575 != t566) a0_0 l0_1) else (laws_FnExactTablesApart.j1 kj10 t563 t566 t572 true a0_0 l0_1))))) = some r := by rw [if_pos rfl] at H; exact H
      clear H
      have H := H1
      clear H1
      replace H := Option.bind_eq_some_iff.mp H
      obtain ⟨⟨t582, t583⟩, A360, H⟩ := H
      replace H : (if t582 < 0 then (laws_FnExactTablesApart.j1 kj10 t563 t566 t572 true a0_0 l0_1) else ((laws_eqIntS.f kj10 t572 t563).bind fun t584 => (if t584 = true then (laws_FnExactTablesApart.j1 kj10 t563 t566 t572 (t575 != t566) a0_0 l0_1) else (laws_FnExactTablesApart.j1 kj10 t563 t566 t572 true a0_0 l0_1)))) = some r := H
      have A36 := Aside0.mk A360
      clear A360
      have HC37 := Aside0.mk H
      clear H
      try go_wp2
      have n0_ := Aside0.mk (Kd.R_drew HO_4.out)
      have n1_ := Aside0.mk (Kd.R_drew HO_7.out)
      have n2_ := Aside0.mk (Kd.R_drew HO_572001.out)
      have n3_ := Aside0.mk (qaj BK557.out)
      have n4_ := Aside0.mk (qaj BK571.out)
      have n5_ := Aside0.mk (qac HB.out)
      clear HO_4
      clear HO_7
      clear HO_572001
      clear BK557
      clear BK571
      clear HB
      have HO_4 := n0_
      have HO_7 := n1_
      have HO_572001 := n2_
      have BK557 := n3_
      have BK571 := n4_
      have HB := n5_
      clear n0_ n1_ n2_ n3_ n4_ n5_
      refine start_ (n := 5) (S := fun w' => w'.cell? ⟨gb571, 0, none⟩ = some (.int .i64 t567) ∧ w'.cell? ⟨gb571, 1, none⟩ = some (.slice Ao24 t568.length co24) ∧ w'.cell? ⟨gb557, 0, none⟩ = some (.int .i64 a0_0) ∧ w'.cell? ⟨gb557, 1, none⟩ = some (.slice A0_1 l0_1.length c0_1)) (ds := []) #[fF,fF,fF,fF,fF] (by kernel_rfl) rfl rfl ⟨(qab BK571.out 0).trans rfl, (qab BK571.out 1).trans rfl, (qab BK557.out 0).trans rfl, (qab BK557.out 1).trans rfl⟩ (fun hHeld => ?_)
      generalize wc.drew = w38 at HO_4 HO_7 HO_572001 BK557 BK571 HB hHeld ⊢
      refine take_ (i := 0) (N := some 41) (v := ?_) (a' := ?_) #[tT,fF,fF,fF,fF] rfl rfl (by kernel_rfl) (fun _ _ _ h => h) (Or.inl ⟨by rfl, ?_⟩) hHeld ?_ ?_
      rotate_left
      ·rintro w' ⟨s0, s1, s2, s3⟩
       go_simp
       with_reducible rfl
      rotate_left
      ·simp only [Act.put, sP_, qam, qan]
       rfl
      refine take_ (i := 1) (N := some 42) (v := ?_) (a' := ?_) #[tT,tT,fF,fF,fF] rfl rfl (by kernel_rfl) (fun _ _ _ h => h) (Or.inl ⟨by rfl, ?_⟩) hHeld ?_ ?_
      rotate_left
      ·rintro w' ⟨s0, s1, s2, s3⟩
       go_simp
       with_reducible rfl
      rotate_left
      ·simp only [Act.put, sP_, qam, qan]
       rfl
      refine one_ (i := 2) (N := some 43) #[tT,tT,tT,fF,fF] rfl rfl (by kernel_rfl) (by decide) (fun K hK => ?_)
      refine goes_ Tryd.func10 (by kernel_rfl) rfl #[.agg #[.int .i64 a0_0, .slice A0_1 l0_1.length c0_1]] (by rfl) rfl rfl mT_ ?_
      with_reducible refine (laws_toParty.calls kj10 a0_0 _ _ l0_1 t577 t578 _ ?side1 ?side2 A33.out).mono ?_
      (case side1 => repeat (first | exact (Kd.C_below HR0_1.out HB.out) | (with_reducible refine Kd.C_alloc ?_ _) | (with_reducible refine Kd.C_drewN ?_ _) | (with_reducible refine Kd.C_drew ?_)))
      (case side2 => exact HC0_1.out)
      rintro e w39 ⟨v579, rfl, ho0, hb⟩
      refine ⟨_, rfl, ?_⟩
      have n0_ := Aside0.mk (Kd.R_below (uR_ HO_4.out) hb)
      have n1_ := Aside0.mk (Kd.R_below (uR_ HO_7.out) hb)
      have n2_ := Aside0.mk (Kd.R_elder' (uR_ HO_572001.out) (Kd.R_base ho0) hb)
      have n3_ := Aside0.mk (Kd.R_lower (Kd.R_new' ho0 (Kd.R_lt (uR_ HO_572001.out))) (qal (hB2_ GE557.out GE571.out)))
      have n4_ := Aside0.mk (qap (g := gb557) (o := .cells #[.int .i64 a0_0, .slice A0_1 l0_1.length c0_1] 24 (0, 0)) (uB_ BK557.out) hb)
      have n5_ := Aside0.mk (qap (g := gb571) (o := .cells #[.int .i64 t567, .slice Ao24 t568.length co24] 30 (0, 0)) (uB_ BK571.out) hb)
      have n6_ := Aside0.mk (qak (hB2_ GE557.out GE571.out) hb)
      clear HO_4
      clear HO_7
      clear HO_572001
      clear BK557
      clear BK571
      clear HB
      have HO_4 := n0_
      have HO_7 := n1_
      have HO_572001 := n2_
      have HO580 := n3_
      have BK557 := n4_
      have BK571 := n5_
      have HB := n6_
      clear n0_ n1_ n2_ n3_ n4_ n5_ n6_
      (try clear hb)
      (try clear hb2)
      (try clear hk)
      (try clear hi)
      (try clear ho0)
      obtain ⟨Ao40, co40, eo40⟩ := Kd.R_slice HO580.out
      (first | subst eo40 | (injection eo40 with f1_ f2_ f3_; have f4_ := f1_.symm; have f5_ := f3_.symm; clear f1_ f2_ f3_; subst f4_; subst f5_))
      refine hK.out _ _ ⟨(qab BK571.out 0).trans rfl, (qab BK571.out 1).trans rfl, (qab BK557.out 0).trans rfl, (qab BK557.out 1).trans rfl⟩ (fun hHeld => ?_)
      clear hK K
      refine norm_ (a' := ?_) ?_ ?_
      rotate_left
      ·show Act.put _ (some 43) _ = _
       simp only [Act.put, sP_, qam, qan]
       rfl
      refine one_ (i := 3) (N := some 44) #[tT,tT,tT,tT,fF] rfl rfl (by kernel_rfl) (by decide) (fun K hK => ?_)
      refine goes_ Tryd.func12 (by kernel_rfl) rfl #[.agg #[.int .i64 t567, .slice Ao24 t568.length co24], .agg #[.int .i64 t577, .slice Ao40 t578.length co40]] (by rfl) rfl rfl mT_ ?_
      with_reducible refine (laws_eqParty.calls kj10 t567 _ _ t568 t577 _ _ t578 true _ ?side1 ?side2 ?side3 ?side4 A34.out).mono ?_
      (case side1 => repeat (first | exact (Kd.R_reads' HO_572001.out).2.2 | (with_reducible refine Kd.C_alloc ?_ _) | (with_reducible refine Kd.C_drewN ?_ _) | (with_reducible refine Kd.C_drew ?_)))
      (case side2 => exact (Kd.R_reads' HO_572001.out).2.1)
      (case side3 => repeat (first | exact (Kd.R_reads' HO580.out).2.2 | (with_reducible refine Kd.C_alloc ?_ _) | (with_reducible refine Kd.C_drewN ?_ _) | (with_reducible refine Kd.C_drew ?_)))
      (case side4 => exact (Kd.R_reads' HO580.out).2.1)
      rintro e w41 ⟨rfl, hb⟩
      refine ⟨_, rfl, ?_⟩
      have n0_ := Aside0.mk (Kd.R_below (uR_ HO_4.out) hb)
      have n1_ := Aside0.mk (Kd.R_below (uR_ HO_7.out) hb)
      have n2_ := Aside0.mk (Kd.R_below (uR_ HO_572001.out) hb)
      have n3_ := Aside0.mk (Kd.R_below (uR_ HO580.out) hb)
      have n4_ := Aside0.mk (qap (g := gb557) (o := .cells #[.int .i64 a0_0, .slice A0_1 l0_1.length c0_1] 24 (0, 0)) (uB_ BK557.out) hb)
      have n5_ := Aside0.mk (qap (g := gb571) (o := .cells #[.int .i64 t567, .slice Ao24 t568.length co24] 30 (0, 0)) (uB_ BK571.out) hb)
      have n6_ := Aside0.mk (qak (hB2_ GE557.out GE571.out) hb)
      clear HO_4
      clear HO_7
      clear HO_572001
      clear HO580
      clear BK557
      clear BK571
      clear HB
      have HO_4 := n0_
      have HO_7 := n1_
      have HO_572001 := n2_
      have HO580 := n3_
      have BK557 := n4_
      have BK571 := n5_
      have HB := n6_
      clear n0_ n1_ n2_ n3_ n4_ n5_ n6_
      (try clear hb)
      (try clear hb2)
      (try clear hk)
      (try clear hi)
      refine hK.out _ _ ⟨(qab BK571.out 0).trans rfl, (qab BK571.out 1).trans rfl, (qab BK557.out 0).trans rfl, (qab BK557.out 1).trans rfl⟩ (fun hHeld => ?_)
      clear hK K
      refine norm_ (a' := ?_) ?_ ?_
      rotate_left
      ·show Act.put _ (some 44) _ = _
       simp only [Act.put, sP_, qam, qan]
       rfl
      refine qar (i := 4) (N := some 45) (v := ?_) (a' := ?_) #[tT,tT,tT,tT,tT] rfl rfl (by kernel_rfl) (fun _ _ _ h => h) (Or.inl ⟨by rfl, ?_⟩) ?_ ?_
      rotate_left
      ·intro w'
       go_simp
       with_reducible rfl
      rotate_left
      ·simp only [Act.put, sP_, qam, qan]
       rfl
      refine done_ (by kernel_rfl) ?_
      have hnb42 := NB571_557.out
      have hnc42 := NB557_571.out
      have hcz43_0 : w41.cell? ⟨gb571, 0, none⟩ = some (.int .i64 t567) := (qab BK571.out 0).trans rfl
      have hcz43_1 : w41.cell? ⟨gb571, 1, none⟩ = some (.slice Ao24 t568.length co24) := (qab BK571.out 1).trans rfl
      have hfz43_0 := qaf BK571.out 0
      have hfz43_1 := qaf BK571.out 1
      go_upto_region 14 with (first | ((with_reducible refine qao (f := 20) rfl ?_); refine goesL_ (some 48) rfl rfl Tryd.func20 (by kernel_rfl) rfl #[.agg #[.int .i64 t567, .slice Ao24 t568.length co24], .int .i64 1] rfl mT_ ?_; (with_reducible refine (laws_markParty.calls kj10 t567 (fun k_ => some k_ = (.slice Ao24 t568.length co24 : Value).ownBlock) (.slice Ao24 t568.length co24) t568 1 t582 t583 w _ ?side1 ?side2 A36.out).mono ?_); (case side1 => repeat (first | (with_reducible first | exact HB.out | apply qad | apply qaa | apply qac | refine qae ?_ GE557.out | refine qae ?_ GE571.out) | exact HB.out)); (case side2 => exact Kd.R_tight rfl HO_572001.out); rintro e w44 ⟨rfl, hy0, hb, hkp⟩; refine ⟨_, rfl, ?_⟩; have n0_ := Aside0.mk (Kd.R_mono (ok' := fun k_ => some k_ ≠ (v573 : Value).ownBlock) (Kd.R_keptB ((Kd.R_apart' HO_4.out (Kd.R_typed HO_572001.out) (by decide))) hkp (fun k_ hk_ hs_ => (hk_.2) hs_)) (fun k_ hk_ => hk_.1.1)); have n1_ := Aside0.mk (Kd.R_mono (ok' := fun k_ => some k_ ≠ (v564 : Value).ownBlock) (Kd.R_keptB ((Kd.R_apart' HO_7.out (Kd.R_typed HO_572001.out) (by decide))) hkp (fun k_ hk_ hs_ => (hk_.2) hs_)) (fun k_ hk_ => hk_.1.1)); have n2_ := Aside0.mk (Kd.R_reok rfl hy0 (fun k_ e_ => HO_572001.out.1 k_ e_)); have n3_ := Aside0.mk (blk_kept (uB_ BK557.out) hkp (fun hs_ => (fun e_ => (Kd.R_ne HO_572001.out BK557.out (by decide)) e_) hs_)); have n4_ := Aside0.mk (blk_kept (uB_ BK571.out) hkp (fun hs_ => (fun e_ => (Kd.R_ne HO_572001.out BK571.out (by decide)) e_) hs_)); have n5_ := Aside0.mk (Kd.R_mono (ok' := fun k_ => some k_ ≠ (.slice Ao24 t568.length co24 : Value).ownBlock) (Kd.R_keptB (HO580.out) hkp (fun k_ hk_ hs_ => (hk_.2) hs_)) (fun k_ hk_ => hk_.1.2)); have n6_ := Aside0.mk (hb); clear HO_4; clear HO_7; clear HO_572001; clear BK557; clear BK571; clear HO580; clear HB; have HO_4 := n0_; have HO_7 := n1_; have HO_572001 := n2_; have BK557 := n3_; have BK571 := n4_; have HO580 := n5_; have HB := n6_; clear n0_ n1_ n2_ n3_ n4_ n5_ n6_; (try clear hb); (try clear hkp); (try clear hy0)))
      (try simp only [Act.put, sP_])
      go_cut [61] (fun v61 wc => ∃ (kq : Nat) (x61_36 : Bool), v61 = .bool x61_36 ∧ Aside0 (laws_FnExactTablesApart.j1 kq t563 t566 t572 x61_36 a0_0 l0_1 = some r) ∧ Aside0 (kq ≤ kj10) ∧ Aside0 (Kd.R (Kd.int .i64) 3 wc w.heap.size (fun k_ => some k_ ≠ (v573 : Value).ownBlock) v564 t563) ∧ Aside0 (Kd.R (Kd.int .i64) 3 wc w.heap.size (fun k_ => some k_ ≠ (v564 : Value).ownBlock) v573 t572) ∧ Aside0 (Kd.R k56 56 wc w.heap.size (fun _ => True) (.slice Ao24 t568.length co24) t583) ∧ Aside0 (wc.heap[gb557]? = some (.cells #[.int .i64 a0_0, (.slice A0_1 l0_1.length c0_1)] 24 (0, 0))) ∧ Aside0 (wc.heap[gb571]? = some (.cells #[.int .i64 t567, (.slice Ao24 t568.length co24)] 30 (0, 0))) ∧ Aside0 (Below w.heap.size w wc))
      case first =>
       have H := HC37.out
       clear HC37
       by_cases c45 : t582 < 0
       ·rw [if_pos c45] at H
        have c45b0 : decide (t582 < 0) = true := decide_eq_true c45
        clear c45
        (first | rw [c45b0] | (simp only [qam, qan]; rw [c45b0]) | skip)
        have H' := Aside0.mk H
        clear H
        go_wp2
        go_meet
        case rel => exact ⟨_, (true), rS_, H', ⟨by have := HJ10.out; first | omega | exact Nat.le_refl _⟩, ⟨by (with_reducible repeat (first | apply Kd.qat | apply Kd.qas | apply Kd.R_drew)); exact HO_4.out⟩, ⟨by (with_reducible repeat (first | apply Kd.qat | apply Kd.qas | apply Kd.R_drew)); exact HO_7.out⟩, ⟨by (with_reducible repeat (first | apply Kd.qat | apply Kd.qas | apply Kd.R_drew)); exact Kd.R_mono HO_572001.out (fun _ hk => trivial)⟩, ⟨by (with_reducible repeat (first | refine qah ?_ _ | refine qaj ?_ | refine qai ?_ _)); exact BK557.out⟩, ⟨by (with_reducible repeat (first | refine qah ?_ _ | refine qaj ?_ | refine qai ?_ _)); exact BK571.out⟩, ⟨by repeat (first | (with_reducible first | exact HB.out | apply qad | apply qaa | apply qac | refine qae ?_ GE557.out | refine qae ?_ GE571.out) | exact HB.out)⟩⟩
       ·rw [if_neg c45] at H
        have c45b0 : decide (t582 < 0) = false := decide_eq_false c45
        clear c45
        (first | rw [c45b0] | (simp only [qam, qan]; rw [c45b0]) | skip)
        replace H := Option.bind_eq_some_iff.mp H
        obtain ⟨t584, A460, H⟩ := H
        replace H : (if t584 = true then (laws_FnExactTablesApart.j1 kj10 t563 t566 t572 (t575 != t566) a0_0 l0_1) else (laws_FnExactTablesApart.j1 kj10 t563 t566 t572 true a0_0 l0_1)) = some r := H
        have A46 := Aside0.mk A460
        clear A460
        by_cases c47 : t584 = true
        ·subst c47
         have H1 : (laws_FnExactTablesApart.j1 kj10 t563 t566 t572 (t575 != t566) a0_0 l0_1) = some r := by rw [if_pos rfl] at H; exact H
         clear H
         have H := H1
         clear H1
         have H' := Aside0.mk H
         clear H
         obtain ⟨Ao48, co48, eo48⟩ := Kd.R_slice HO_7.out
         subst eo48
         obtain ⟨Ao49, co49, eo49⟩ := Kd.R_slice HO_4.out
         subst eo49
         go_wp2_with (first | (go_at_call 19; (with_reducible refine (laws_eqIntS.calls kj10 _ _ t572 _ _ t563 true _ ?side1 ?side2 ?side3 ?side4 A46.out).mono ?_); (case side1 => repeat (first | exact (Kd.R_reads' HO_7.out).2.2 | (with_reducible refine Kd.C_alloc ?_ _) | (with_reducible refine Kd.C_drewN ?_ _) | (with_reducible refine Kd.C_drew ?_))); (case side2 => exact (Kd.R_reads' HO_7.out).2.1); (case side3 => repeat (first | exact (Kd.R_reads' HO_4.out).2.2 | (with_reducible refine Kd.C_alloc ?_ _) | (with_reducible refine Kd.C_drewN ?_ _) | (with_reducible refine Kd.C_drew ?_))); (case side4 => exact (Kd.R_reads' HO_4.out).2.1); rintro e w' ⟨rfl, ⟨nd, rfl⟩⟩))
         go_meet
         case rel => exact ⟨_, ((t575 != t566)), rS_, H', ⟨by have := HJ10.out; first | omega | exact Nat.le_refl _⟩, ⟨by (with_reducible repeat (first | apply Kd.qat | apply Kd.qas | apply Kd.R_drew)); exact HO_4.out⟩, ⟨by (with_reducible repeat (first | apply Kd.qat | apply Kd.qas | apply Kd.R_drew)); exact HO_7.out⟩, ⟨by (with_reducible repeat (first | apply Kd.qat | apply Kd.qas | apply Kd.R_drew)); exact Kd.R_mono HO_572001.out (fun _ hk => trivial)⟩, ⟨by (with_reducible repeat (first | refine qah ?_ _ | refine qaj ?_ | refine qai ?_ _)); exact BK557.out⟩, ⟨by (with_reducible repeat (first | refine qah ?_ _ | refine qaj ?_ | refine qai ?_ _)); exact BK571.out⟩, ⟨by repeat (first | (with_reducible first | exact HB.out | apply qad | apply qaa | apply qac | refine qae ?_ GE557.out | refine qae ?_ GE571.out) | exact HB.out)⟩⟩
        ·replace c47 := Bool.eq_false_iff.mpr c47
         subst c47
         have H1 : (laws_FnExactTablesApart.j1 kj10 t563 t566 t572 true a0_0 l0_1) = some r := by rw [if_neg (show ¬ (false = true) by decide)] at H; exact H
         clear H
         have H := H1
         clear H1
         have H' := Aside0.mk H
         clear H
         obtain ⟨Ao50, co50, eo50⟩ := Kd.R_slice HO_7.out
         subst eo50
         obtain ⟨Ao51, co51, eo51⟩ := Kd.R_slice HO_4.out
         subst eo51
         go_wp2_with (first | (go_at_call 19; (with_reducible refine (laws_eqIntS.calls kj10 _ _ t572 _ _ t563 false _ ?side1 ?side2 ?side3 ?side4 A46.out).mono ?_); (case side1 => repeat (first | exact (Kd.R_reads' HO_7.out).2.2 | (with_reducible refine Kd.C_alloc ?_ _) | (with_reducible refine Kd.C_drewN ?_ _) | (with_reducible refine Kd.C_drew ?_))); (case side2 => exact (Kd.R_reads' HO_7.out).2.1); (case side3 => repeat (first | exact (Kd.R_reads' HO_4.out).2.2 | (with_reducible refine Kd.C_alloc ?_ _) | (with_reducible refine Kd.C_drewN ?_ _) | (with_reducible refine Kd.C_drew ?_))); (case side4 => exact (Kd.R_reads' HO_4.out).2.1); rintro e w' ⟨rfl, ⟨nd, rfl⟩⟩))
         go_meet
         case rel => exact ⟨_, (true), rS_, H', ⟨by have := HJ10.out; first | omega | exact Nat.le_refl _⟩, ⟨by (with_reducible repeat (first | apply Kd.qat | apply Kd.qas | apply Kd.R_drew)); exact HO_4.out⟩, ⟨by (with_reducible repeat (first | apply Kd.qat | apply Kd.qas | apply Kd.R_drew)); exact HO_7.out⟩, ⟨by (with_reducible repeat (first | apply Kd.qat | apply Kd.qas | apply Kd.R_drew)); exact Kd.R_mono HO_572001.out (fun _ hk => trivial)⟩, ⟨by (with_reducible repeat (first | refine qah ?_ _ | refine qaj ?_ | refine qai ?_ _)); exact BK557.out⟩, ⟨by (with_reducible repeat (first | refine qah ?_ _ | refine qaj ?_ | refine qai ?_ _)); exact BK571.out⟩, ⟨by repeat (first | (with_reducible first | exact HB.out | apply qad | apply qaa | apply qac | refine qae ?_ GE557.out | refine qae ?_ GE571.out) | exact HB.out)⟩⟩
      case rest =>
       clear HC37
       obtain ⟨kq, x61_36, rfl, HA, HJ36, HO_4, HO_7, HO_572001, BK557, BK571, HB⟩ := hcut
       have hl572001_36 := (Kd.R_reads' HO_572001.out).1
       rw [hl572001_36] at HO_572001
       (try simp only [hl572001_36])
       (try simp only [hl572001_36] at BK557)
       (try simp only [hl572001_36] at BK571)
       (try simp only [hl572001_36] at HO_4)
       (try simp only [hl572001_36] at HO_7)
       cases kq with
       | zero => exact absurd HA.out (by simp [laws_FnExactTablesApart.j1])
       | succ kj36 =>
        have H := HA.out
        clear HA
        simp only [laws_FnExactTablesApart.j1] at H
        by_cases c52 : x61_36 = true
        ·subst c52
         have H1 : (some false) = some r := by rw [if_pos rfl] at H; exact H
         clear H
         have H := H1
         clear H1
         obtain rfl := Option.some.inj H
         go_wp2
         go_ret
         exact ⟨by first | rfl | (simp [errW_none, errW_some] <;> rfl) | (simp [*, errW_none, errW_some] <;> rfl), by repeat (first | (with_reducible first | exact HB.out | apply qad | apply qaa | apply qac | refine qae ?_ GE557.out | refine qae ?_ GE571.out) | exact HB.out)⟩
        ·replace c52 := Bool.eq_false_iff.mpr c52
         subst c52
         have H1 : ((laws_markIntS.f kj36 t572 1).bind fun bt585 => ((laws_heldIntS.f kj36 bt585.2 1).bind fun t587 => (if t587 < 0 then (some false) else (if t587 = bt585.1 then ((laws_toParty.f kj36 a0_0 l0_1).bind fun bt588 => ((impl_TablesApart.f kj36 bt588.1 bt588.2).bind fun bt592 => ((laws_eqIntS.f kj36 bt592.1 t563).bind fun t596 => (if t596 = true then (laws_FnExactTablesApart.j2 kj36 bt585.2 bt585.1 (bt592.2 != t566)) else (laws_FnExactTablesApart.j2 kj36 bt585.2 bt585.1 true))))) else (some false))))) = some r := by rw [if_neg (show ¬ (false = true) by decide)] at H; exact H
         clear H
         have H := H1
         clear H1
         replace H := Option.bind_eq_some_iff.mp H
         obtain ⟨⟨t585, t586⟩, A530, H⟩ := H
         replace H : ((laws_heldIntS.f kj36 t586 1).bind fun t587 => (if t587 < 0 then (some false) else (if t587 = t585 then ((laws_toParty.f kj36 a0_0 l0_1).bind fun bt588 => ((impl_TablesApart.f kj36 bt588.1 bt588.2).bind fun bt592 => ((laws_eqIntS.f kj36 bt592.1 t563).bind fun t596 => (if t596 = true then (laws_FnExactTablesApart.j2 kj36 t586 t585 (bt592.2 != t566)) else (laws_FnExactTablesApart.j2 kj36 t586 t585 true))))) else (some false)))) = some r := H
         have A53 := Aside0.mk A530
         clear A530
         replace H := Option.bind_eq_some_iff.mp H
         obtain ⟨t587, A540, H⟩ := H
         replace H : (if t587 < 0 then (some false) else (if t587 = t585 then ((laws_toParty.f kj36 a0_0 l0_1).bind fun bt588 => ((impl_TablesApart.f kj36 bt588.1 bt588.2).bind fun bt592 => ((laws_eqIntS.f kj36 bt592.1 t563).bind fun t596 => (if t596 = true then (laws_FnExactTablesApart.j2 kj36 t586 t585 (bt592.2 != t566)) else (laws_FnExactTablesApart.j2 kj36 t586 t585 true))))) else (some false))) = some r := H
         have A54 := Aside0.mk A540
         clear A540
         by_cases c55 : t587 < 0
         ·rw [if_pos c55] at H
          have c55b0 : decide (t587 < 0) = true := decide_eq_true c55
          clear c55
          obtain rfl := Option.some.inj H
          obtain ⟨Ao56, co56, eo56⟩ := Kd.R_slice HO_7.out
          subst eo56
          go_wp2_with (first | ((with_reducible refine qao (f := 21) rfl ?_); refine goesL_ (some 64) rfl rfl Tryd.func21 (by kernel_rfl) rfl #[.slice Ao56 t572.length co56, .int .i64 1] rfl mT_ ?_; (with_reducible refine (laws_markIntS.calls kj36 (fun k_ => some k_ = (.slice Ao56 t572.length co56 : Value).ownBlock) (.slice Ao56 t572.length co56) t572 1 t585 t586 w _ ?side1 ?side2 A53.out).mono ?_); (case side1 => repeat (first | (with_reducible first | exact HB.out | apply qad | apply qaa | apply qac | refine qae ?_ GE557.out | refine qae ?_ GE571.out) | exact HB.out)); (case side2 => exact Kd.R_tight rfl HO_7.out); rintro e w57 ⟨rfl, hy0, hb, hkp⟩; refine ⟨_, rfl, ?_⟩; have n0_ := Aside0.mk (Kd.R_mono (ok' := fun k_ => some k_ ≠ (.slice Ao56 t572.length co56 : Value).ownBlock) (Kd.R_keptB (HO_4.out) hkp (fun k_ hk_ hs_ => (hk_) hs_)) (fun k_ hk_ => hk_.1)); have n1_ := Aside0.mk (Kd.R_reok rfl hy0 (fun k_ e_ => HO_7.out.1 k_ e_)); have n2_ := Aside0.mk (Kd.R_mono (ok' := fun k_ => True) (Kd.R_keptB ((Kd.R_apart' HO_572001.out (Kd.R_typed HO_7.out) (by decide))) hkp (fun k_ hk_ hs_ => (hk_.2) hs_)) (fun k_ hk_ => trivial)); have n3_ := Aside0.mk (blk_kept (uB_ BK557.out) hkp (fun hs_ => (fun e_ => (Kd.R_ne HO_7.out BK557.out (by decide)) e_) hs_)); have n4_ := Aside0.mk (blk_kept (uB_ BK571.out) hkp (fun hs_ => (fun e_ => (Kd.R_ne HO_7.out BK571.out (by decide)) e_) hs_)); have n5_ := Aside0.mk (hb); clear HO_4; clear HO_7; clear HO_572001; clear BK557; clear BK571; clear HB; have HO_4 := n0_; have HO_7 := n1_; have HO_572001 := n2_; have BK557 := n3_; have BK571 := n4_; have HB := n5_; clear n0_ n1_ n2_ n3_ n4_ n5_; (try clear hb); (try clear hkp); (try clear hy0)) | ((with_reducible refine qao (f := 22) rfl ?_); refine goesL_ (some 67) rfl rfl Tryd.func22 (by kernel_rfl) rfl #[.slice Ao56 t586.length co56, .int .i64 1] rfl (by (try simp only [List.map_toArray, List.map_cons, List.map_nil]); first | done | (rw [show t586.length = t572.length from (Kd.R_reads' HO_7.out).1.symm] <;> rfl) | rfl | (simp only [List.length_drop, List.length_take]; rfl)) ?_; (with_reducible refine (laws_heldIntS.calls kj36 _ _ t586 1 t587 _ ?side1 ?side2 A54.out).mono ?_); (case side1 => repeat (first | exact (Kd.R_reads' HO_7.out).2.2 | (with_reducible refine Kd.C_alloc ?_ _) | (with_reducible refine Kd.C_drewN ?_ _) | (with_reducible refine Kd.C_drew ?_))); (case side2 => rw [show t586.length = t572.length from (Kd.R_reads' HO_7.out).1.symm]; exact (Kd.R_reads' HO_7.out).2.1); rintro e w' ⟨rfl, ⟨nd, rfl⟩⟩; refine ⟨_, rfl, ?_⟩))
          go_ret
          exact ⟨by first | rfl | (simp [errW_none, errW_some] <;> rfl) | (simp [*, errW_none, errW_some] <;> rfl), by repeat (first | (with_reducible first | exact HB.out | apply qad | apply qaa | apply qac | refine qae ?_ GE557.out | refine qae ?_ GE571.out) | exact HB.out)⟩
         ·rw [if_neg c55] at H
          have c55b0 : decide (t587 < 0) = false := decide_eq_false c55
          clear c55
          by_cases c58 : t587 = t585
          ·rw [if_pos c58] at H
           have c58b0 : (t587 == t585) = true := beq_iff_eq.mpr c58
           have c58b1 : (t587 != t585) = false := bne_eq_false_iff_eq.mpr c58
           clear c58
           replace H := Option.bind_eq_some_iff.mp H
           obtain ⟨⟨t588, t589⟩, A590, H⟩ := H
           replace H : ((impl_TablesApart.f kj36 t588 t589).bind fun bt592 => ((laws_eqIntS.f kj36 bt592.1 t563).bind fun t596 => (if t596 = true then (laws_FnExactTablesApart.j2 kj36 t586 t585 (bt592.2 != t566)) else (laws_FnExactTablesApart.j2 kj36 t586 t585 true)))) = some r := H
           have A59 := Aside0.mk A590
           clear A590
           replace H := Option.bind_eq_some_iff.mp H
           obtain ⟨⟨t592, t595⟩, A600, H⟩ := H
           replace H : ((laws_eqIntS.f kj36 t592 t563).bind fun t596 => (if t596 = true then (laws_FnExactTablesApart.j2 kj36 t586 t585 (t595 != t566)) else (laws_FnExactTablesApart.j2 kj36 t586 t585 true))) = some r := H
           have A60 := Aside0.mk A600
           clear A600
           have HC61 := Aside0.mk H
           clear H
           obtain ⟨Ao62, co62, eo62⟩ := Kd.R_slice HO_7.out
           subst eo62
           go_upto_region 25 with (first | ((with_reducible refine qao (f := 21) rfl ?_); refine goesL_ (some 64) rfl rfl Tryd.func21 (by kernel_rfl) rfl #[.slice Ao62 t572.length co62, .int .i64 1] rfl mT_ ?_; (with_reducible refine (laws_markIntS.calls kj36 (fun k_ => some k_ = (.slice Ao62 t572.length co62 : Value).ownBlock) (.slice Ao62 t572.length co62) t572 1 t585 t586 w _ ?side1 ?side2 A53.out).mono ?_); (case side1 => repeat (first | (with_reducible first | exact HB.out | apply qad | apply qaa | apply qac | refine qae ?_ GE557.out | refine qae ?_ GE571.out) | exact HB.out)); (case side2 => exact Kd.R_tight rfl HO_7.out); rintro e w63 ⟨rfl, hy0, hb, hkp⟩; refine ⟨_, rfl, ?_⟩; have n0_ := Aside0.mk (Kd.R_mono (ok' := fun k_ => some k_ ≠ (.slice Ao62 t572.length co62 : Value).ownBlock) (Kd.R_keptB (HO_4.out) hkp (fun k_ hk_ hs_ => (hk_) hs_)) (fun k_ hk_ => hk_.1)); have n1_ := Aside0.mk (Kd.R_reok rfl hy0 (fun k_ e_ => HO_7.out.1 k_ e_)); have n2_ := Aside0.mk (Kd.R_mono (ok' := fun k_ => True) (Kd.R_keptB ((Kd.R_apart' HO_572001.out (Kd.R_typed HO_7.out) (by decide))) hkp (fun k_ hk_ hs_ => (hk_.2) hs_)) (fun k_ hk_ => trivial)); have n3_ := Aside0.mk (blk_kept (uB_ BK557.out) hkp (fun hs_ => (fun e_ => (Kd.R_ne HO_7.out BK557.out (by decide)) e_) hs_)); have n4_ := Aside0.mk (blk_kept (uB_ BK571.out) hkp (fun hs_ => (fun e_ => (Kd.R_ne HO_7.out BK571.out (by decide)) e_) hs_)); have n5_ := Aside0.mk (hb); clear HO_4; clear HO_7; clear HO_572001; clear BK557; clear BK571; clear HB; have HO_4 := n0_; have HO_7 := n1_; have HO_572001 := n2_; have BK557 := n3_; have BK571 := n4_; have HB := n5_; clear n0_ n1_ n2_ n3_ n4_ n5_; (try clear hb); (try clear hkp); (try clear hy0)) | ((with_reducible refine qao (f := 22) rfl ?_); refine goesL_ (some 67) rfl rfl Tryd.func22 (by kernel_rfl) rfl #[.slice Ao62 t586.length co62, .int .i64 1] rfl (by (try simp only [List.map_toArray, List.map_cons, List.map_nil]); first | done | (rw [show t586.length = t572.length from (Kd.R_reads' HO_7.out).1.symm] <;> rfl) | rfl | (simp only [List.length_drop, List.length_take]; rfl)) ?_; (with_reducible refine (laws_heldIntS.calls kj36 _ _ t586 1 t587 _ ?side1 ?side2 A54.out).mono ?_); (case side1 => repeat (first | exact (Kd.R_reads' HO_7.out).2.2 | (with_reducible refine Kd.C_alloc ?_ _) | (with_reducible refine Kd.C_drewN ?_ _) | (with_reducible refine Kd.C_drew ?_))); (case side2 => rw [show t586.length = t572.length from (Kd.R_reads' HO_7.out).1.symm]; exact (Kd.R_reads' HO_7.out).2.1); rintro e w' ⟨rfl, ⟨nd, rfl⟩⟩; refine ⟨_, rfl, ?_⟩; have hnb64 := NB557_571.out; have hnc64 := NB571_557.out; have hcz65_0 : w63.cell? ⟨gb557, 0, none⟩ = some (.int .i64 a0_0) := (qab BK557.out 0).trans rfl; have hcz65_1 : w63.cell? ⟨gb557, 1, none⟩ = some (.slice A0_1 l0_1.length c0_1) := (qab BK557.out 1).trans rfl; have hfz65_0 := qaf BK557.out 0; have hfz65_1 := qaf BK557.out 1) | ((with_reducible refine qao (f := 10) rfl ?_); refine goesL_ (some 75) rfl rfl Tryd.func10 (by kernel_rfl) rfl #[.agg #[.int .i64 a0_0, .slice A0_1 l0_1.length c0_1]] rfl mT_ ?_; (with_reducible refine (laws_toParty.calls kj36 a0_0 _ _ l0_1 t588 t589 _ ?side1 ?side2 A59.out).mono ?_); (case side1 => repeat (first | exact (Kd.C_below HR0_1.out (hB2_ GE557.out GE571.out)) | (with_reducible refine Kd.C_alloc ?_ _) | (with_reducible refine Kd.C_drewN ?_ _) | (with_reducible refine Kd.C_drew ?_))); (case side2 => exact HC0_1.out); rintro e w66 ⟨v590, rfl, ho0, hb⟩; refine ⟨_, rfl, ?_⟩; have n0_ := Aside0.mk (Kd.R_below (uR_ HO_4.out) hb); have n1_ := Aside0.mk (Kd.R_below (uR_ HO_7.out) hb); have n2_ := Aside0.mk (Kd.R_elder' (uR_ HO_572001.out) (Kd.R_base ho0) hb); have n3_ := Aside0.mk (Kd.R_lower (Kd.R_new' ho0 (Kd.R_lt (uR_ HO_572001.out))) (qal (hB2_ GE557.out GE571.out))); have n4_ := Aside0.mk (qap (g := gb557) (o := .cells #[.int .i64 a0_0, .slice A0_1 l0_1.length c0_1] 24 (0, 0)) (uB_ BK557.out) hb); have n5_ := Aside0.mk (qap (g := gb571) (o := .cells #[.int .i64 t567, .slice Ao24 t583.length co24] 30 (0, 0)) (uB_ BK571.out) hb); have n6_ := Aside0.mk (qak (hB2_ GE557.out GE571.out) hb); clear HO_4; clear HO_7; clear HO_572001; clear BK557; clear BK571; clear HB; have HO_4 := n0_; have HO_7 := n1_; have HO_572001 := n2_; have HO591 := n3_; have BK557 := n4_; have BK571 := n5_; have HB := n6_; clear n0_ n1_ n2_ n3_ n4_ n5_ n6_; (try clear hb); (try clear hb2); (try clear hk); (try clear hi); (try clear ho0); obtain ⟨Ao67, co67, eo67⟩ := Kd.R_slice HO591.out; subst eo67) | ((with_reducible refine qao (f := 18) rfl ?_); refine goesL_ (some 76) rfl rfl Tryd.func18 (by kernel_rfl) rfl #[.agg #[.int .i64 t588, .slice Ao67 t589.length co67]] rfl mT_ ?_; (with_reducible refine (impl_TablesApart.calls kj36 t588 _ _ t589 t592 t595 _ ?sideG ?side1 ?side2 A60.out).mono ?_); (case sideG => first | exact HG.out | exact Tab.below HG.out (hB2_ GE557.out GE571.out)); (case side1 => repeat (first | exact (Kd.R_reads' HO591.out).2.2 | (with_reducible refine Kd.C_alloc ?_ _) | (with_reducible refine Kd.C_drewN ?_ _) | (with_reducible refine Kd.C_drew ?_))); (case side2 => exact (Kd.R_reads' HO591.out).2.1); rintro e w68 ⟨v593, rfl, ho0, hb⟩; refine ⟨_, rfl, ?_⟩; have n0_ := Aside0.mk (Kd.R_elder' (uR_ HO_4.out) (Kd.R_base ho0) hb); have n1_ := Aside0.mk (Kd.R_elder' (uR_ HO_7.out) (Kd.R_base ho0) hb); have n2_ := Aside0.mk (Kd.R_below (uR_ HO_572001.out) hb); have n3_ := Aside0.mk (Kd.R_below (uR_ HO591.out) hb); have n4_ := Aside0.mk (Kd.R_lower (Kd.R_new' (Kd.R_new' ho0 (Kd.R_lt (uR_ HO_4.out))) (Kd.R_lt (uR_ HO_7.out))) (qal (hB2_ GE557.out GE571.out))); have n5_ := Aside0.mk (qap (g := gb557) (o := .cells #[.int .i64 a0_0, .slice A0_1 l0_1.length c0_1] 24 (0, 0)) (uB_ BK557.out) hb); have n6_ := Aside0.mk (qap (g := gb571) (o := .cells #[.int .i64 t567, .slice Ao24 t583.length co24] 30 (0, 0)) (uB_ BK571.out) hb); have n7_ := Aside0.mk (qak (hB2_ GE557.out GE571.out) hb); clear HO_4; clear HO_7; clear HO_572001; clear HO591; clear BK557; clear BK571; clear HB; have HO_4 := n0_; have HO_7 := n1_; have HO_572001 := n2_; have HO591 := n3_; have HO594 := n4_; have BK557 := n5_; have BK571 := n6_; have HB := n7_; clear n0_ n1_ n2_ n3_ n4_ n5_ n6_ n7_; (try clear hb); (try clear hb2); (try clear hk); (try clear hi); (try clear ho0)))
           (try simp only [Act.put, sP_])
           go_cut [87] (fun v87 wc => ∃ (kq : Nat) (x87_60 : Bool), v87 = .bool x87_60 ∧ Aside0 (laws_FnExactTablesApart.j2 kq t586 t585 x87_60 = some r) ∧ Aside0 (kq ≤ kj36) ∧ Aside0 (Kd.R (Kd.int .i64) 3 wc w.heap.size (fun _ => True) (.slice Ao62 t572.length co62) t586) ∧ Aside0 (Kd.R k56 56 wc w.heap.size (fun _ => True) (.slice Ao24 t583.length co24) t583) ∧ Aside0 (wc.heap[gb557]? = some (.cells #[.int .i64 a0_0, (.slice A0_1 l0_1.length c0_1)] 24 (0, 0))) ∧ Aside0 (wc.heap[gb571]? = some (.cells #[.int .i64 t567, (.slice Ao24 t583.length co24)] 30 (0, 0))) ∧ Aside0 (Below w.heap.size w wc))
           case first =>
            have H := HC61.out
            clear HC61
            replace H := Option.bind_eq_some_iff.mp H
            obtain ⟨t596, A690, H⟩ := H
            replace H : (if t596 = true then (laws_FnExactTablesApart.j2 kj36 t586 t585 (t595 != t566)) else (laws_FnExactTablesApart.j2 kj36 t586 t585 true)) = some r := H
            have A69 := Aside0.mk A690
            clear A690
            by_cases c70 : t596 = true
            ·subst c70
             have H1 : (laws_FnExactTablesApart.j2 kj36 t586 t585 (t595 != t566)) = some r := by rw [if_pos rfl] at H; exact H
             clear H
             have H := H1
             clear H1
             have H' := Aside0.mk H
             clear H
             obtain ⟨Ao71, co71, eo71⟩ := Kd.R_slice HO594.out
             subst eo71
             obtain ⟨Ao72, co72, eo72⟩ := Kd.R_slice HO_4.out
             subst eo72
             go_wp2_with (first | ((with_reducible refine qao (f := 19) rfl ?_); refine goesL_ (some 81) rfl rfl Tryd.func19 (by kernel_rfl) rfl #[.slice Ao71 t592.length co71, .slice Ao72 t563.length co72] rfl mT_ ?_; (with_reducible refine (laws_eqIntS.calls kj36 _ _ t592 _ _ t563 true _ ?side1 ?side2 ?side3 ?side4 A69.out).mono ?_); (case side1 => repeat (first | exact (Kd.R_reads' HO594.out).2.2 | (with_reducible refine Kd.C_alloc ?_ _) | (with_reducible refine Kd.C_drewN ?_ _) | (with_reducible refine Kd.C_drew ?_))); (case side2 => exact (Kd.R_reads' HO594.out).2.1); (case side3 => repeat (first | exact (Kd.R_reads' HO_4.out).2.2 | (with_reducible refine Kd.C_alloc ?_ _) | (with_reducible refine Kd.C_drewN ?_ _) | (with_reducible refine Kd.C_drew ?_))); (case side4 => exact (Kd.R_reads' HO_4.out).2.1); rintro e w' ⟨rfl, ⟨nd, rfl⟩⟩; refine ⟨_, rfl, ?_⟩))
             go_meet
             case rel => exact ⟨_, ((t595 != t566)), rS_, H', ⟨by have := HJ10.out; have := HJ36.out; first | omega | exact Nat.le_refl _⟩, ⟨by (try simp only [hl572001_36]); (with_reducible repeat (first | apply Kd.qat | apply Kd.qas | apply Kd.R_drew)); exact Kd.R_mono HO_7.out (fun _ hk => trivial)⟩, ⟨by (try simp only [hl572001_36]); (with_reducible repeat (first | apply Kd.qat | apply Kd.qas | apply Kd.R_drew)); exact Kd.R_mono HO_572001.out (fun _ hk => trivial)⟩, ⟨by (try simp only [hl572001_36]); (with_reducible repeat (first | refine qah ?_ _ | refine qaj ?_ | refine qai ?_ _)); exact BK557.out⟩, ⟨by (try simp only [hl572001_36]); (with_reducible repeat (first | refine qah ?_ _ | refine qaj ?_ | refine qai ?_ _)); exact BK571.out⟩, ⟨by repeat (first | (with_reducible first | exact HB.out | apply qad | apply qaa | apply qac | refine qae ?_ GE557.out | refine qae ?_ GE571.out) | exact HB.out)⟩⟩
            ·replace c70 := Bool.eq_false_iff.mpr c70
             subst c70
             have H1 : (laws_FnExactTablesApart.j2 kj36 t586 t585 true) = some r := by rw [if_neg (show ¬ (false = true) by decide)] at H; exact H
             clear H
             have H := H1
             clear H1
             have H' := Aside0.mk H
             clear H
             obtain ⟨Ao73, co73, eo73⟩ := Kd.R_slice HO594.out
             subst eo73
             obtain ⟨Ao74, co74, eo74⟩ := Kd.R_slice HO_4.out
             subst eo74
             go_wp2_with (first | ((with_reducible refine qao (f := 19) rfl ?_); refine goesL_ (some 81) rfl rfl Tryd.func19 (by kernel_rfl) rfl #[.slice Ao73 t592.length co73, .slice Ao74 t563.length co74] rfl mT_ ?_; (with_reducible refine (laws_eqIntS.calls kj36 _ _ t592 _ _ t563 false _ ?side1 ?side2 ?side3 ?side4 A69.out).mono ?_); (case side1 => repeat (first | exact (Kd.R_reads' HO594.out).2.2 | (with_reducible refine Kd.C_alloc ?_ _) | (with_reducible refine Kd.C_drewN ?_ _) | (with_reducible refine Kd.C_drew ?_))); (case side2 => exact (Kd.R_reads' HO594.out).2.1); (case side3 => repeat (first | exact (Kd.R_reads' HO_4.out).2.2 | (with_reducible refine Kd.C_alloc ?_ _) | (with_reducible refine Kd.C_drewN ?_ _) | (with_reducible refine Kd.C_drew ?_))); (case side4 => exact (Kd.R_reads' HO_4.out).2.1); rintro e w' ⟨rfl, ⟨nd, rfl⟩⟩; refine ⟨_, rfl, ?_⟩))
             go_meet
             case rel => exact ⟨_, (true), rS_, H', ⟨by have := HJ10.out; have := HJ36.out; first | omega | exact Nat.le_refl _⟩, ⟨by (try simp only [hl572001_36]); (with_reducible repeat (first | apply Kd.qat | apply Kd.qas | apply Kd.R_drew)); exact Kd.R_mono HO_7.out (fun _ hk => trivial)⟩, ⟨by (try simp only [hl572001_36]); (with_reducible repeat (first | apply Kd.qat | apply Kd.qas | apply Kd.R_drew)); exact Kd.R_mono HO_572001.out (fun _ hk => trivial)⟩, ⟨by (try simp only [hl572001_36]); (with_reducible repeat (first | refine qah ?_ _ | refine qaj ?_ | refine qai ?_ _)); exact BK557.out⟩, ⟨by (try simp only [hl572001_36]); (with_reducible repeat (first | refine qah ?_ _ | refine qaj ?_ | refine qai ?_ _)); exact BK571.out⟩, ⟨by repeat (first | (with_reducible first | exact HB.out | apply qad | apply qaa | apply qac | refine qae ?_ GE557.out | refine qae ?_ GE571.out) | exact HB.out)⟩⟩
           case rest =>
            clear HC61
            obtain ⟨kq, x87_60, rfl, HA, HJ60, HO_7, HO_572001, BK557, BK571, HB⟩ := hcut
            have hl7_60 := (Kd.R_reads' HO_7.out).1
            rw [hl7_60] at HO_7
            (try simp only [hl7_60])
            (try simp only [hl7_60] at BK557)
            (try simp only [hl7_60] at BK571)
            (try simp only [hl7_60] at HO_572001)
            cases kq with
            | zero => exact absurd HA.out (by simp [laws_FnExactTablesApart.j2])
            | succ kj60 =>
             have H := HA.out
             clear HA
             simp only [laws_FnExactTablesApart.j2] at H
             by_cases c75 : x87_60 = true
             ·subst c75
              have H1 : (some false) = some r := by rw [if_pos rfl] at H; exact H
              clear H
              have H := H1
              clear H1
              obtain rfl := Option.some.inj H
              go_wp2
              go_ret
              exact ⟨by first | rfl | (simp [errW_none, errW_some] <;> rfl) | (simp [*, errW_none, errW_some] <;> rfl), by repeat (first | (with_reducible first | exact HB.out | apply qad | apply qaa | apply qac | refine qae ?_ GE557.out | refine qae ?_ GE571.out) | exact HB.out)⟩
             ·replace c75 := Bool.eq_false_iff.mpr c75
              subst c75
              have H1 : ((laws_heldIntS.f kj60 t586 1).bind fun t597 => (if t597 < 0 then (some false) else (if t597 = t585 then (some true) else (some false)))) = some r := by rw [if_neg (show ¬ (false = true) by decide)] at H; exact H
              clear H
              have H := H1
              clear H1
              replace H := Option.bind_eq_some_iff.mp H
              obtain ⟨t597, A760, H⟩ := H
              replace H : (if t597 < 0 then (some false) else (if t597 = t585 then (some true) else (some false))) = some r := H
              have A76 := Aside0.mk A760
              clear A760
              by_cases c77 : t597 < 0
              ·rw [if_pos c77] at H
               have c77b0 : decide (t597 < 0) = true := decide_eq_true c77
               clear c77
               obtain rfl := Option.some.inj H
               go_wp2_with (first | ((with_reducible refine qao (f := 22) rfl ?_); refine goesL_ (some 90) rfl rfl Tryd.func22 (by kernel_rfl) rfl #[.slice Ao62 t586.length co62, .int .i64 1] rfl mT_ ?_; (with_reducible refine (laws_heldIntS.calls kj60 _ _ t586 1 t597 _ ?side1 ?side2 A76.out).mono ?_); (case side1 => repeat (first | exact (Kd.R_reads' HO_7.out).2.2 | (with_reducible refine Kd.C_alloc ?_ _) | (with_reducible refine Kd.C_drewN ?_ _) | (with_reducible refine Kd.C_drew ?_))); (case side2 => exact (Kd.R_reads' HO_7.out).2.1); rintro e w' ⟨rfl, ⟨nd, rfl⟩⟩; refine ⟨_, rfl, ?_⟩))
               go_ret
               exact ⟨by first | rfl | (simp [errW_none, errW_some] <;> rfl) | (simp [*, errW_none, errW_some] <;> rfl), by repeat (first | (with_reducible first | exact HB.out | apply qad | apply qaa | apply qac | refine qae ?_ GE557.out | refine qae ?_ GE571.out) | exact HB.out)⟩
              ·rw [if_neg c77] at H
               have c77b0 : decide (t597 < 0) = false := decide_eq_false c77
               clear c77
               by_cases c78 : t597 = t585
               ·rw [if_pos c78] at H
                have c78b0 : (t597 == t585) = true := beq_iff_eq.mpr c78
                have c78b1 : (t597 != t585) = false := bne_eq_false_iff_eq.mpr c78
                clear c78
                obtain rfl := Option.some.inj H
                go_wp2_with (first | ((with_reducible refine qao (f := 22) rfl ?_); refine goesL_ (some 90) rfl rfl Tryd.func22 (by kernel_rfl) rfl #[.slice Ao62 t586.length co62, .int .i64 1] rfl mT_ ?_; (with_reducible refine (laws_heldIntS.calls kj60 _ _ t586 1 t597 _ ?side1 ?side2 A76.out).mono ?_); (case side1 => repeat (first | exact (Kd.R_reads' HO_7.out).2.2 | (with_reducible refine Kd.C_alloc ?_ _) | (with_reducible refine Kd.C_drewN ?_ _) | (with_reducible refine Kd.C_drew ?_))); (case side2 => exact (Kd.R_reads' HO_7.out).2.1); rintro e w' ⟨rfl, ⟨nd, rfl⟩⟩; refine ⟨_, rfl, ?_⟩))
                go_ret
                exact ⟨by first | rfl | (simp [errW_none, errW_some] <;> rfl) | (simp [*, errW_none, errW_some] <;> rfl), by repeat (first | (with_reducible first | exact HB.out | apply qad | apply qaa | apply qac | refine qae ?_ GE557.out | refine qae ?_ GE571.out) | exact HB.out)⟩
               ·rw [if_neg c78] at H
                have c78b0 : (t597 == t585) = false := beq_eq_false_iff_ne.mpr c78
                have c78b1 : (t597 != t585) = true := bne_iff_ne.mpr c78
                obtain rfl := Option.some.inj H
                go_wp2_with (first | ((with_reducible refine qao (f := 22) rfl ?_); refine goesL_ (some 90) rfl rfl Tryd.func22 (by kernel_rfl) rfl #[.slice Ao62 t586.length co62, .int .i64 1] rfl mT_ ?_; (with_reducible refine (laws_heldIntS.calls kj60 _ _ t586 1 t597 _ ?side1 ?side2 A76.out).mono ?_); (case side1 => repeat (first | exact (Kd.R_reads' HO_7.out).2.2 | (with_reducible refine Kd.C_alloc ?_ _) | (with_reducible refine Kd.C_drewN ?_ _) | (with_reducible refine Kd.C_drew ?_))); (case side2 => exact (Kd.R_reads' HO_7.out).2.1); rintro e w' ⟨rfl, ⟨nd, rfl⟩⟩; refine ⟨_, rfl, ?_⟩))
                go_ret
                exact ⟨by first | rfl | (simp [errW_none, errW_some] <;> rfl) | (simp [*, errW_none, errW_some] <;> rfl), by repeat (first | (with_reducible first | exact HB.out | apply qad | apply qaa | apply qac | refine qae ?_ GE557.out | refine qae ?_ GE571.out) | exact HB.out)⟩
          ·rw [if_neg c58] at H
           have c58b0 : (t587 == t585) = false := beq_eq_false_iff_ne.mpr c58
           have c58b1 : (t587 != t585) = true := bne_iff_ne.mpr c58
           obtain rfl := Option.some.inj H
           obtain ⟨Ao79, co79, eo79⟩ := Kd.R_slice HO_7.out
           subst eo79
           go_wp2_with (first | ((with_reducible refine qao (f := 21) rfl ?_); refine goesL_ (some 64) rfl rfl Tryd.func21 (by kernel_rfl) rfl #[.slice Ao79 t572.length co79, .int .i64 1] rfl mT_ ?_; (with_reducible refine (laws_markIntS.calls kj36 (fun k_ => some k_ = (.slice Ao79 t572.length co79 : Value).ownBlock) (.slice Ao79 t572.length co79) t572 1 t585 t586 w _ ?side1 ?side2 A53.out).mono ?_); (case side1 => repeat (first | (with_reducible first | exact HB.out | apply qad | apply qaa | apply qac | refine qae ?_ GE557.out | refine qae ?_ GE571.out) | exact HB.out)); (case side2 => exact Kd.R_tight rfl HO_7.out); rintro e w80 ⟨rfl, hy0, hb, hkp⟩; refine ⟨_, rfl, ?_⟩; have n0_ := Aside0.mk (Kd.R_mono (ok' := fun k_ => some k_ ≠ (.slice Ao79 t572.length co79 : Value).ownBlock) (Kd.R_keptB (HO_4.out) hkp (fun k_ hk_ hs_ => (hk_) hs_)) (fun k_ hk_ => hk_.1)); have n1_ := Aside0.mk (Kd.R_reok rfl hy0 (fun k_ e_ => HO_7.out.1 k_ e_)); have n2_ := Aside0.mk (Kd.R_mono (ok' := fun k_ => True) (Kd.R_keptB ((Kd.R_apart' HO_572001.out (Kd.R_typed HO_7.out) (by decide))) hkp (fun k_ hk_ hs_ => (hk_.2) hs_)) (fun k_ hk_ => trivial)); have n3_ := Aside0.mk (blk_kept (uB_ BK557.out) hkp (fun hs_ => (fun e_ => (Kd.R_ne HO_7.out BK557.out (by decide)) e_) hs_)); have n4_ := Aside0.mk (blk_kept (uB_ BK571.out) hkp (fun hs_ => (fun e_ => (Kd.R_ne HO_7.out BK571.out (by decide)) e_) hs_)); have n5_ := Aside0.mk (hb); clear HO_4; clear HO_7; clear HO_572001; clear BK557; clear BK571; clear HB; have HO_4 := n0_; have HO_7 := n1_; have HO_572001 := n2_; have BK557 := n3_; have BK571 := n4_; have HB := n5_; clear n0_ n1_ n2_ n3_ n4_ n5_; (try clear hb); (try clear hkp); (try clear hy0)) | ((with_reducible refine qao (f := 22) rfl ?_); refine goesL_ (some 67) rfl rfl Tryd.func22 (by kernel_rfl) rfl #[.slice Ao79 t586.length co79, .int .i64 1] rfl (by (try simp only [List.map_toArray, List.map_cons, List.map_nil]); first | done | (rw [show t586.length = t572.length from (Kd.R_reads' HO_7.out).1.symm] <;> rfl) | rfl | (simp only [List.length_drop, List.length_take]; rfl)) ?_; (with_reducible refine (laws_heldIntS.calls kj36 _ _ t586 1 t587 _ ?side1 ?side2 A54.out).mono ?_); (case side1 => repeat (first | exact (Kd.R_reads' HO_7.out).2.2 | (with_reducible refine Kd.C_alloc ?_ _) | (with_reducible refine Kd.C_drewN ?_ _) | (with_reducible refine Kd.C_drew ?_))); (case side2 => rw [show t586.length = t572.length from (Kd.R_reads' HO_7.out).1.symm]; exact (Kd.R_reads' HO_7.out).2.1); rintro e w' ⟨rfl, ⟨nd, rfl⟩⟩; refine ⟨_, rfl, ?_⟩))
           go_ret
           exact ⟨by first | rfl | (simp [errW_none, errW_some] <;> rfl) | (simp [*, errW_none, errW_some] <;> rfl), by repeat (first | (with_reducible first | exact HB.out | apply qad | apply qaa | apply qac | refine qae ?_ GE557.out | refine qae ?_ GE571.out) | exact HB.out)⟩
     ·replace c35 := Bool.eq_false_iff.mpr c35
      subst c35
      have H1 : (some false) = some r := by rw [if_neg (show ¬ (false = true) by decide)] at H; exact H
      clear H
      have H := H1
      clear H1
      obtain rfl := Option.some.inj H
      try go_wp2
      have n0_ := Aside0.mk (Kd.R_drew HO_4.out)
      have n1_ := Aside0.mk (Kd.R_drew HO_7.out)
      have n2_ := Aside0.mk (Kd.R_drew HO_572001.out)
      have n3_ := Aside0.mk (qaj BK557.out)
      have n4_ := Aside0.mk (qaj BK571.out)
      have n5_ := Aside0.mk (qac HB.out)
      clear HO_4
      clear HO_7
      clear HO_572001
      clear BK557
      clear BK571
      clear HB
      have HO_4 := n0_
      have HO_7 := n1_
      have HO_572001 := n2_
      have BK557 := n3_
      have BK571 := n4_
      have HB := n5_
      clear n0_ n1_ n2_ n3_ n4_ n5_
      refine start_ (n := 5) (S := fun w' => w'.cell? ⟨gb571, 0, none⟩ = some (.int .i64 t567) ∧ w'.cell? ⟨gb571, 1, none⟩ = some (.slice Ao24 t568.length co24) ∧ w'.cell? ⟨gb557, 0, none⟩ = some (.int .i64 a0_0) ∧ w'.cell? ⟨gb557, 1, none⟩ = some (.slice A0_1 l0_1.length c0_1)) (ds := []) #[fF,fF,fF,fF,fF] (by kernel_rfl) rfl rfl ⟨(qab BK571.out 0).trans rfl, (qab BK571.out 1).trans rfl, (qab BK557.out 0).trans rfl, (qab BK557.out 1).trans rfl⟩ (fun hHeld => ?_)
      generalize wc.drew = w81 at HO_4 HO_7 HO_572001 BK557 BK571 HB hHeld ⊢
      refine take_ (i := 0) (N := some 41) (v := ?_) (a' := ?_) #[tT,fF,fF,fF,fF] rfl rfl (by kernel_rfl) (fun _ _ _ h => h) (Or.inl ⟨by rfl, ?_⟩) hHeld ?_ ?_
      rotate_left
      ·rintro w' ⟨s0, s1, s2, s3⟩
       go_simp
       with_reducible rfl
      rotate_left
      ·simp only [Act.put, sP_, qam, qan]
       rfl
      refine take_ (i := 1) (N := some 42) (v := ?_) (a' := ?_) #[tT,tT,fF,fF,fF] rfl rfl (by kernel_rfl) (fun _ _ _ h => h) (Or.inl ⟨by rfl, ?_⟩) hHeld ?_ ?_
      rotate_left
      ·rintro w' ⟨s0, s1, s2, s3⟩
       go_simp
       with_reducible rfl
      rotate_left
      ·simp only [Act.put, sP_, qam, qan]
       rfl
      refine one_ (i := 2) (N := some 43) #[tT,tT,tT,fF,fF] rfl rfl (by kernel_rfl) (by decide) (fun K hK => ?_)
      refine goes_ Tryd.func10 (by kernel_rfl) rfl #[.agg #[.int .i64 a0_0, .slice A0_1 l0_1.length c0_1]] (by rfl) rfl rfl mT_ ?_
      with_reducible refine (laws_toParty.calls kj10 a0_0 _ _ l0_1 t577 t578 _ ?side1 ?side2 A33.out).mono ?_
      (case side1 => repeat (first | exact (Kd.C_below HR0_1.out HB.out) | (with_reducible refine Kd.C_alloc ?_ _) | (with_reducible refine Kd.C_drewN ?_ _) | (with_reducible refine Kd.C_drew ?_)))
      (case side2 => exact HC0_1.out)
      rintro e w82 ⟨v579, rfl, ho0, hb⟩
      refine ⟨_, rfl, ?_⟩
      have n0_ := Aside0.mk (Kd.R_below (uR_ HO_4.out) hb)
      have n1_ := Aside0.mk (Kd.R_below (uR_ HO_7.out) hb)
      have n2_ := Aside0.mk (Kd.R_elder' (uR_ HO_572001.out) (Kd.R_base ho0) hb)
      have n3_ := Aside0.mk (Kd.R_lower (Kd.R_new' ho0 (Kd.R_lt (uR_ HO_572001.out))) (qal (hB2_ GE557.out GE571.out)))
      have n4_ := Aside0.mk (qap (g := gb557) (o := .cells #[.int .i64 a0_0, .slice A0_1 l0_1.length c0_1] 24 (0, 0)) (uB_ BK557.out) hb)
      have n5_ := Aside0.mk (qap (g := gb571) (o := .cells #[.int .i64 t567, .slice Ao24 t568.length co24] 30 (0, 0)) (uB_ BK571.out) hb)
      have n6_ := Aside0.mk (qak (hB2_ GE557.out GE571.out) hb)
      clear HO_4
      clear HO_7
      clear HO_572001
      clear BK557
      clear BK571
      clear HB
      have HO_4 := n0_
      have HO_7 := n1_
      have HO_572001 := n2_
      have HO580 := n3_
      have BK557 := n4_
      have BK571 := n5_
      have HB := n6_
      clear n0_ n1_ n2_ n3_ n4_ n5_ n6_
      (try clear hb)
      (try clear hb2)
      (try clear hk)
      (try clear hi)
      (try clear ho0)
      obtain ⟨Ao83, co83, eo83⟩ := Kd.R_slice HO580.out
      (first | subst eo83 | (injection eo83 with f1_ f2_ f3_; have f4_ := f1_.symm; have f5_ := f3_.symm; clear f1_ f2_ f3_; subst f4_; subst f5_))
      refine hK.out _ _ ⟨(qab BK571.out 0).trans rfl, (qab BK571.out 1).trans rfl, (qab BK557.out 0).trans rfl, (qab BK557.out 1).trans rfl⟩ (fun hHeld => ?_)
      clear hK K
      refine norm_ (a' := ?_) ?_ ?_
      rotate_left
      ·show Act.put _ (some 43) _ = _
       simp only [Act.put, sP_, qam, qan]
       rfl
      refine one_ (i := 3) (N := some 44) #[tT,tT,tT,tT,fF] rfl rfl (by kernel_rfl) (by decide) (fun K hK => ?_)
      refine goes_ Tryd.func12 (by kernel_rfl) rfl #[.agg #[.int .i64 t567, .slice Ao24 t568.length co24], .agg #[.int .i64 t577, .slice Ao83 t578.length co83]] (by rfl) rfl rfl mT_ ?_
      with_reducible refine (laws_eqParty.calls kj10 t567 _ _ t568 t577 _ _ t578 false _ ?side1 ?side2 ?side3 ?side4 A34.out).mono ?_
      (case side1 => repeat (first | exact (Kd.R_reads' HO_572001.out).2.2 | (with_reducible refine Kd.C_alloc ?_ _) | (with_reducible refine Kd.C_drewN ?_ _) | (with_reducible refine Kd.C_drew ?_)))
      (case side2 => exact (Kd.R_reads' HO_572001.out).2.1)
      (case side3 => repeat (first | exact (Kd.R_reads' HO580.out).2.2 | (with_reducible refine Kd.C_alloc ?_ _) | (with_reducible refine Kd.C_drewN ?_ _) | (with_reducible refine Kd.C_drew ?_)))
      (case side4 => exact (Kd.R_reads' HO580.out).2.1)
      rintro e w84 ⟨rfl, hb⟩
      refine ⟨_, rfl, ?_⟩
      have n0_ := Aside0.mk (Kd.R_below (uR_ HO_4.out) hb)
      have n1_ := Aside0.mk (Kd.R_below (uR_ HO_7.out) hb)
      have n2_ := Aside0.mk (Kd.R_below (uR_ HO_572001.out) hb)
      have n3_ := Aside0.mk (Kd.R_below (uR_ HO580.out) hb)
      have n4_ := Aside0.mk (qap (g := gb557) (o := .cells #[.int .i64 a0_0, .slice A0_1 l0_1.length c0_1] 24 (0, 0)) (uB_ BK557.out) hb)
      have n5_ := Aside0.mk (qap (g := gb571) (o := .cells #[.int .i64 t567, .slice Ao24 t568.length co24] 30 (0, 0)) (uB_ BK571.out) hb)
      have n6_ := Aside0.mk (qak (hB2_ GE557.out GE571.out) hb)
      clear HO_4
      clear HO_7
      clear HO_572001
      clear HO580
      clear BK557
      clear BK571
      clear HB
      have HO_4 := n0_
      have HO_7 := n1_
      have HO_572001 := n2_
      have HO580 := n3_
      have BK557 := n4_
      have BK571 := n5_
      have HB := n6_
      clear n0_ n1_ n2_ n3_ n4_ n5_ n6_
      (try clear hb)
      (try clear hb2)
      (try clear hk)
      (try clear hi)
      refine hK.out _ _ ⟨(qab BK571.out 0).trans rfl, (qab BK571.out 1).trans rfl, (qab BK557.out 0).trans rfl, (qab BK557.out 1).trans rfl⟩ (fun hHeld => ?_)
      clear hK K
      refine norm_ (a' := ?_) ?_ ?_
      rotate_left
      ·show Act.put _ (some 44) _ = _
       simp only [Act.put, sP_, qam, qan]
       rfl
      refine qar (i := 4) (N := some 45) (v := ?_) (a' := ?_) #[tT,tT,tT,tT,tT] rfl rfl (by kernel_rfl) (fun _ _ _ h => h) (Or.inl ⟨by rfl, ?_⟩) ?_ ?_
      rotate_left
      ·intro w'
       go_simp
       with_reducible rfl
      rotate_left
      ·simp only [Act.put, sP_, qam, qan]
       rfl
      refine done_ (by kernel_rfl) ?_
      try go_wp2
      go_ret
      exact ⟨by first | rfl | (simp [errW_none, errW_some] <;> rfl) | (simp [*, errW_none, errW_some] <;> rfl), by repeat (first | (with_reducible first | exact HB.out | apply qad | apply qaa | apply qac | refine qae ?_ GE557.out | refine qae ?_ GE571.out) | exact HB.out)⟩

end Go.Proofs.YtedfcbbklhfgcaaDoor.Q
