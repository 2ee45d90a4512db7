import Derived.Test.YtlacnnnmeolomaaQ0
import Derived.Test.YtlacnnnmeolomaaQ86
import Derived.Test.YtlacnnnmeolomaaQ18
import Derived.Test.YtlacnnnmeolomaaQ111
import Derived.Test.YtlacnnnmeolomaaQ119
import Derived.Test.YtlacnnnmeolomaaQ121
import Derived.Test.YtlacnnnmeolomaaQ125
import Derived.Test.YtlacnnnmeolomaaQ128
namespace Go.Proofs.Ytlacnnnmeolomaa.Q
open Go.RowKit Go.Proofs.YtlacnnnmeolomaaW.PrintWords Go.Proofs.YtlacnnnmeolomaaW.PrintLast Go.Proofs.YtlacnnnmeolomaaW.PrintMore
attribute [local go_sem] max2_int min2_int max_two min_two max_three min_three max_four min_four   -- for this text's walks alone
set_option linter.unusedVariables false
set_option linter.unusedSimpArgs false

/-! ### laws_markPainting: function 45 -/
def laws_markPainting.f (k : Nat) (a0_0 : Int) (a0_1 : Int) (l0_2 : List Int) (a1 : Int) : Option (Int × List Int) := (laws_markIntS.f k l0_2 a1).bind fun bt748 => (some (bt748.1, bt748.2))
theorem laws_markPainting.mono : ∀ a0 a1 a2 a3 k, LeO (laws_markPainting.f k a0 a1 a2 a3) (laws_markPainting.f (k + 1) a0 a1 a2 a3) := by
 intro a0 a1 a2 a3 k
 unfold laws_markPainting.f
 repeat' first
   | (with_reducible exact laws_markIntS.mono _ _ _)
   | (with_reducible exact LeO.refl _)
   | (with_reducible exact LeO.none _)
   | (with_reducible refine LeO.ite ?_ ?_)
   | (with_reducible refine LeO.bind ?_ (fun _ => ?_))
   | exact laws_markIntS.mono _ _ _
   | exact LeO.none _
   | refine LeO.ite ?_ ?_
   | refine LeO.bind ?_ (fun _ => ?_)
set_option maxHeartbeats 8000000 in
set_option maxRecDepth 100000 in
theorem laws_markPainting.calls (k : Nat) (a0_0 : Int) (a0_1 : Int) (P0_2_ : Nat → Prop) (u9000_ : Value) (l0_2 : List Int) (a1 : Int) (r1 : Int) (r2 : List Int) (w0 w : World) (hB : Below w0.heap.size w0 w) (ho0_2 : Kd.R (Kd.int .i64) 3 w w0.heap.size P0_2_ u9000_ l0_2) (h : laws_markPainting.f k a0_0 a0_1 l0_2 a1 = some (r1, r2)) :
  Calls Try.prog 45 #[.agg #[.int .i64 a0_0, .int .i64 a0_1, u9000_], .int .i64 a1] w fun e w' => e = .returned (.int .i64 r1) ∧ Kd.R (Kd.int .i64) 3 w' w0.heap.size (fun k_ => (P0_2_ k_ ∨ w.heap.size ≤ k_)) u9000_ r2 ∧ Below w0.heap.size w0 w' ∧ Kept w w' (fun k_ => P0_2_ k_) := by
 have hu59 := Try.underlying59
 have HO0_2 := Aside0.mk (show Kd.R (Kd.int .i64) 3 w w0.heap.size (fun k_ => (P0_2_ k_ ∨ w.heap.size ≤ k_)) u9000_ l0_2 from Kd.R_mono ho0_2 (fun k_ hk => (.inl hk)))
 have HK := Aside0.mk (Kept.refl w (fun k_ => P0_2_ k_))
 have HW0 := Aside0.mk hB.size
 have HB := Aside0.mk hB
 clear hB
 have H : ((laws_markIntS.f k l0_2 a1).bind fun bt748 => (some (bt748.1, bt748.2))) = some (r1, r2) := h
 clear h
 replace H := Option.bind_eq_some_iff.mp H
 obtain ⟨⟨t748, t749⟩, A30, H⟩ := H
 replace H : (some (t748, t749)) = some (r1, r2) := H
 have A3 := Aside0.mk A30
 clear A30
 simp only [Option.some.injEq, Prod.mk.injEq] at H
 obtain ⟨rfl, rfl⟩ := H
 obtain ⟨Ao4, co4, eo4⟩ := Kd.R_slice HO0_2.out
 subst eo4
 go_enter Try.func45, Try.ntmps45
 go_wp2_with (first | ((with_reducible refine gate_dst (N := 2) rfl ?_); refine box_event ?hg (N := 2) ?hd (cs := #[.int .i64 a0_0, .int .i64 a0_1, .slice Ao4 l0_2.length co4]) (t := 59) ?hr ?_; (case hd => rfl); (case hg => rfl); (case hr => first | (go_simp; done) | (go_simp; rfl)); intro gb747 hg w5 hbox hb; have n0_ := Aside0.mk (Kd.R_below (by (with_reducible repeat (first | apply Kd.R_alloc | apply Kd.R_drewN | apply Kd.R_drew)); exact HO0_2.out) hb); have n1_ := Aside0.mk (Kept.below (S := (fun k_ => P0_2_ k_)) (by repeat (first | (with_reducible first | exact HK.out | apply Kept.alloc | apply Kept.drewN | apply Kept.drew) | exact HK.out)) hb); have n2_ := Aside0.mk (below_step (by repeat (first | (with_reducible first | exact HB.out | apply below_alloc | apply pw_below_drewN | apply below_drew1) | exact HB.out)) hb); have n3_ := Aside0.mk (hbox); have n4_ := Aside0.mk ((by rw [hg]; exact (by first | exact HK.out.1 | exact (show Kept w _ (fun k_ => P0_2_ k_) from by repeat (first | (with_reducible first | exact HK.out | apply Kept.alloc | apply Kept.drewN | apply Kept.drew) | exact HK.out)).1) : w.heap.size ≤ gb747)); have n5_ := Aside0.mk ((by rw [hg]; exact (below_size (by repeat (first | (with_reducible first | exact HB.out | apply below_alloc | apply pw_below_drewN | apply below_drew1) | exact HB.out))) : w0.heap.size ≤ gb747)); clear HO0_2; clear HK; clear HB; have HO0_2 := n0_; have HK := n1_; have HB := n2_; have BK747 := n3_; have GW747 := n4_; have GE747 := n5_; clear n0_ n1_ n2_ n3_ n4_ n5_; clear hb hbox hg; have hcz6_0 : w5.cell? ⟨gb747, 0, none⟩ = some (.int .i64 a0_0) := (blk_cell BK747.out 0).trans rfl; have hcz6_1 : w5.cell? ⟨gb747, 1, none⟩ = some (.int .i64 a0_1) := (blk_cell BK747.out 1).trans rfl; have hcz6_2 : w5.cell? ⟨gb747, 2, none⟩ = some (.slice Ao4 l0_2.length co4) := (blk_cell BK747.out 2).trans rfl; have hfz6_0 := blk_frozen BK747.out 0; have hfz6_1 := blk_frozen BK747.out 1; have hfz6_2 := blk_frozen BK747.out 2) | ((with_reducible refine gate_callee (f := 29) rfl ?_); refine goesL_ (some 8) rfl rfl Try.func29 (by kernel_rfl) rfl #[.slice Ao4 l0_2.length co4, .int .i64 a1] rfl (by (try simp only [List.map_toArray, List.map_cons, List.map_nil]); first | done | rfl | (simp only [List.length_drop, List.length_take]; rfl)) ?_; (with_reducible refine (laws_markIntS.calls k (fun k_ => some k_ = (.slice Ao4 l0_2.length co4 : Value).ownBlock) (.slice Ao4 l0_2.length co4) l0_2 a1 t748 t749 w0 _ ?side1 ?side2 A3.out).mono ?_); (case side1 => repeat (first | (with_reducible first | exact HB.out | apply below_alloc | apply pw_below_drewN | apply below_drew1 | refine below_set ?_ GE747.out) | exact HB.out)); (case side2 => exact Kd.R_tight rfl HO0_2.out); rintro e w7 ⟨rfl, hy0, hb, hkp⟩; refine ⟨_, rfl, ?_⟩; have n0_ := Aside0.mk (Kd.R_reok rfl hy0 (fun k_ e_ => HO0_2.out.1 k_ e_)); have n1_ := Aside0.mk (blk_kept (by (with_reducible repeat (first | refine blk_drewN ?_ _ | refine blk_drew ?_ | refine blk_alloc ?_ _)); exact BK747.out) hkp (fun hs_ => (fun e_ => (Kd.R_ne HO0_2.out BK747.out (by decide)) e_) hs_)); have n2_ := Aside0.mk (Kept.then_ (S := (fun k_ => P0_2_ k_)) (by repeat (first | (with_reducible first | exact HK.out | apply Kept.alloc | apply Kept.drewN | apply Kept.drew | refine Kept.setCell ?_ (.inr GW747.out) _) | exact HK.out)) hkp (fun k_ hs_ => (fun e_ => (HO0_2.out.1 k_ e_.symm)) hs_)); have n3_ := Aside0.mk (hb); clear HO0_2; clear BK747; clear HK; clear HB; have HO0_2 := n0_; have BK747 := n1_; have HK := n2_; have HB := n3_; clear n0_ n1_ n2_ n3_; (try clear hb); (try clear hkp); (try clear hy0)))
 go_ret
 exact ⟨by first | rfl | (simp [errW_none, errW_some] <;> rfl) | (simp [*, errW_none, errW_some] <;> rfl), by (with_reducible repeat (first | apply Kd.R_alloc | apply Kd.R_drewN | apply Kd.R_drew)); exact HO0_2.out, by repeat (first | (with_reducible first | exact HB.out | apply below_alloc | apply pw_below_drewN | apply below_drew1 | refine below_set ?_ GE747.out) | exact HB.out), by repeat (first | (with_reducible first | exact HK.out | apply Kept.alloc | apply Kept.drewN | apply Kept.drew | refine Kept.setCell ?_ (.inr GW747.out) _) | exact HK.out)⟩

end Go.Proofs.Ytlacnnnmeolomaa.Q
namespace Go.Proofs.Ytlacnnnmeolomaa.Q
open Go.RowKit Go.Proofs.YtlacnnnmeolomaaW.PrintWords Go.Proofs.YtlacnnnmeolomaaW.PrintLast Go.Proofs.YtlacnnnmeolomaaW.PrintMore
attribute [local go_sem] max2_int min2_int max_two min_two max_three min_three max_four min_four   -- for this text's walks alone
set_option linter.unusedVariables false
set_option linter.unusedSimpArgs false

/-! ### laws_szPainting: function 40 -/
def laws_szPainting.f (a0_0 : Int) (a0_1 : Int) (l0_2 : List Int) (a1 : Int) : Option (Int) := (laws_szIntS.f l0_2 a1).bind fun t685 => (if t685 < 0 then (some (-1)) else (some t685))
set_option maxHeartbeats 8000000 in
set_option maxRecDepth 100000 in
theorem laws_szPainting.calls (a0_0 : Int) (a0_1 : Int) (A0_2 : Option Addr) (c0_2 : Nat) (l0_2 : List Int) (a1 : Int) (r : Int) (w : World) (hr0_2 : Kd.C (Kd.int .i64) w A0_2 l0_2.length l0_2) (hc0_2 : l0_2.length ≤ c0_2) (h : laws_szPainting.f a0_0 a0_1 l0_2 a1 = some r) :
  Calls Try.prog 40 #[.agg #[.int .i64 a0_0, .int .i64 a0_1, .slice A0_2 l0_2.length c0_2], .int .i64 a1] w fun e w' => e = .returned (.int .i64 r) ∧ Below w.heap.size w w' := by
 have hu57 := Try.underlying57
 have HR0_2 := Aside0.mk hr0_2
 have HC0_2 := Aside0.mk hc0_2
 clear hr0_2 hc0_2
 have HB := Aside0.mk (Below.refl w.heap.size w)
 have H : ((laws_szIntS.f l0_2 a1).bind fun t685 => (if t685 < 0 then (some (-1)) else (some t685))) = some r := h
 clear h
 replace H := Option.bind_eq_some_iff.mp H
 obtain ⟨t685, A30, H⟩ := H
 replace H : (if t685 < 0 then (some (-1)) else (some t685)) = some r := H
 have A3 := Aside0.mk A30
 clear A30
 by_cases c4 : t685 < 0
 ·rw [if_pos c4] at H
  have c4b0 : decide (t685 < 0) = true := decide_eq_true c4
  clear c4
  obtain rfl := Option.some.inj H
  go_enter Try.func40, Try.ntmps40
  go_wp2_with (first | ((with_reducible refine gate_dst (N := 2) rfl ?_); refine box_event ?hg (N := 2) ?hd (cs := #[.int .i64 a0_0, .int .i64 a0_1, .slice A0_2 l0_2.length c0_2]) (t := 57) ?hr ?_; (case hd => rfl); (case hg => rfl); (case hr => first | (go_simp; done) | (go_simp; rfl)); intro gb684 hg w5 hbox hb; have n0_ := Aside0.mk (below_step (by repeat (first | (with_reducible first | exact HB.out | apply below_alloc | apply pw_below_drewN | apply below_drew1) | exact HB.out)) hb); have n1_ := Aside0.mk (hbox); have n2_ := Aside0.mk ((by rw [hg]; exact (below_size (by repeat (first | (with_reducible first | exact HB.out | apply below_alloc | apply pw_below_drewN | apply below_drew1) | exact HB.out))) : w.heap.size ≤ gb684)); have n3_ := n2_; clear HB; have HB := n0_; have BK684 := n1_; have GW684 := n2_; have GE684 := n3_; clear n0_ n1_ n2_ n3_; clear hb hbox hg; have hcz6_0 : w5.cell? ⟨gb684, 0, none⟩ = some (.int .i64 a0_0) := (blk_cell BK684.out 0).trans rfl; have hcz6_1 : w5.cell? ⟨gb684, 1, none⟩ = some (.int .i64 a0_1) := (blk_cell BK684.out 1).trans rfl; have hcz6_2 : w5.cell? ⟨gb684, 2, none⟩ = some (.slice A0_2 l0_2.length c0_2) := (blk_cell BK684.out 2).trans rfl; have hfz6_0 := blk_frozen BK684.out 0; have hfz6_1 := blk_frozen BK684.out 1; have hfz6_2 := blk_frozen BK684.out 2) | ((with_reducible refine gate_callee (f := 63) rfl ?_); refine goesL_ (some 8) rfl rfl Try.func63 (by kernel_rfl) rfl #[.slice A0_2 l0_2.length c0_2, .int .i64 a1] rfl (by (try simp only [List.map_toArray, List.map_cons, List.map_nil]); first | done | rfl | (simp only [List.length_drop, List.length_take]; rfl)) ?_; (with_reducible refine (laws_szIntS.calls _ _ l0_2 a1 t685 _ ?side1 ?side2 A3.out).mono ?_); (case side1 => repeat (first | exact (Kd.C_below HR0_2.out HB.out) | (with_reducible refine Kd.C_alloc ?_ _) | (with_reducible refine Kd.C_drewN ?_ _) | (with_reducible refine Kd.C_drew ?_))); (case side2 => exact HC0_2.out); rintro e w' ⟨rfl, ⟨nd, rfl⟩⟩; refine ⟨_, rfl, ?_⟩))
  go_ret
  exact ⟨by first | rfl | (simp [errW_none, errW_some] <;> rfl) | (simp [*, errW_none, errW_some] <;> rfl), by repeat (first | (with_reducible first | exact HB.out | apply below_alloc | apply pw_below_drewN | apply below_drew1 | refine below_set ?_ GE684.out) | exact HB.out)⟩
 ·rw [if_neg c4] at H
  have c4b0 : decide (t685 < 0) = false := decide_eq_false c4
  clear c4
  obtain rfl := Option.some.inj H
  go_enter Try.func40, Try.ntmps40
  go_wp2_with (first | ((with_reducible refine gate_dst (N := 2) rfl ?_); refine box_event ?hg (N := 2) ?hd (cs := #[.int .i64 a0_0, .int .i64 a0_1, .slice A0_2 l0_2.length c0_2]) (t := 57) ?hr ?_; (case hd => rfl); (case hg => rfl); (case hr => first | (go_simp; done) | (go_simp; rfl)); intro gb684 hg w7 hbox hb; have n0_ := Aside0.mk (below_step (by repeat (first | (with_reducible first | exact HB.out | apply below_alloc | apply pw_below_drewN | apply below_drew1) | exact HB.out)) hb); have n1_ := Aside0.mk (hbox); have n2_ := Aside0.mk ((by rw [hg]; exact (below_size (by repeat (first | (with_reducible first | exact HB.out | apply below_alloc | apply pw_below_drewN | apply below_drew1) | exact HB.out))) : w.heap.size ≤ gb684)); have n3_ := n2_; clear HB; have HB := n0_; have BK684 := n1_; have GW684 := n2_; have GE684 := n3_; clear n0_ n1_ n2_ n3_; clear hb hbox hg; have hcz8_0 : w7.cell? ⟨gb684, 0, none⟩ = some (.int .i64 a0_0) := (blk_cell BK684.out 0).trans rfl; have hcz8_1 : w7.cell? ⟨gb684, 1, none⟩ = some (.int .i64 a0_1) := (blk_cell BK684.out 1).trans rfl; have hcz8_2 : w7.cell? ⟨gb684, 2, none⟩ = some (.slice A0_2 l0_2.length c0_2) := (blk_cell BK684.out 2).trans rfl; have hfz8_0 := blk_frozen BK684.out 0; have hfz8_1 := blk_frozen BK684.out 1; have hfz8_2 := blk_frozen BK684.out 2) | ((with_reducible refine gate_callee (f := 63) rfl ?_); refine goesL_ (some 8) rfl rfl Try.func63 (by kernel_rfl) rfl #[.slice A0_2 l0_2.length c0_2, .int .i64 a1] rfl (by (try simp only [List.map_toArray, List.map_cons, List.map_nil]); first | done | rfl | (simp only [List.length_drop, List.length_take]; rfl)) ?_; (with_reducible refine (laws_szIntS.calls _ _ l0_2 a1 t685 _ ?side1 ?side2 A3.out).mono ?_); (case side1 => repeat (first | exact (Kd.C_below HR0_2.out HB.out) | (with_reducible refine Kd.C_alloc ?_ _) | (with_reducible refine Kd.C_drewN ?_ _) | (with_reducible refine Kd.C_drew ?_))); (case side2 => exact HC0_2.out); rintro e w' ⟨rfl, ⟨nd, rfl⟩⟩; refine ⟨_, rfl, ?_⟩))
  go_ret
  exact ⟨by first | rfl | (simp [errW_none, errW_some] <;> rfl) | (simp [*, errW_none, errW_some] <;> rfl), by repeat (first | (with_reducible first | exact HB.out | apply below_alloc | apply pw_below_drewN | apply below_drew1 | refine below_set ?_ GE684.out) | exact HB.out)⟩

end Go.Proofs.Ytlacnnnmeolomaa.Q
namespace Go.Proofs.Ytlacnnnmeolomaa.Q
open Go.RowKit Go.Proofs.YtlacnnnmeolomaaW.PrintWords Go.Proofs.YtlacnnnmeolomaaW.PrintLast Go.Proofs.YtlacnnnmeolomaaW.PrintMore
attribute [local go_sem] max2_int min2_int max_two min_two max_three min_three max_four min_four   -- for this text's walks alone
set_option linter.unusedVariables false
set_option linter.unusedSimpArgs false

/-! ### laws_FnExactPaintPair: function 10 -/
mutual
def laws_FnExactPaintPair.j0 : Nat → Int → Int → Int → Bool → Bool → Bool → Int → Int → List Int → Int → Int → List Int → Int → Int → List Int → Int → Int → List Int → Option (Bool)
 | 0, _, _, _, _, _, _, _, _, _, _, _, _, _, _, _, _, _, _ => none
 | k + 1, x1, x2, x3, x11, x14, x52, x807000, x807001, x807002, x820000, x820001, x820002, x826000, x826001, x826002, x833000, x833001, x833002 => if x52 = true then (some false) else ((laws_toPainting.f k x807000 x807001 x807002).bind fun bt834 => ((laws_eqPainting.f k x826000 x826001 x826002 bt834.1 bt834.2.1 bt834.2.2).bind fun t839 => (if t839 = true then ((laws_markPainting.f k x826000 x826001 x826002 1).bind fun bt840 => (if bt840.1 < 0 then (laws_FnExactPaintPair.j1 k x1 x2 x3 x11 true x807000 x807001 x807002 x820000 x820001 x820002 x833000 x833001 x833002) else ((laws_eqPainting.f k x833000 x833001 x833002 x820000 x820001 x820002).bind fun t842 => (if t842 = true then (laws_FnExactPaintPair.j1 k x1 x2 x3 x11 (x14 != x11) x807000 x807001 x807002 x820000 x820001 x820002 x833000 x833001 x833002) else (laws_FnExactPaintPair.j1 k x1 x2 x3 x11 true x807000 x807001 x807002 x820000 x820001 x820002 x833000 x833001 x833002))))) else (some false))))
def laws_FnExactPaintPair.j1 : Nat → Int → Int → Int → Bool → Bool → Int → Int → List Int → Int → Int → List Int → Int → Int → List Int → Option (Bool)
 | 0, _, _, _, _, _, _, _, _, _, _, _, _, _, _ => none
 | k + 1, x1, x2, x3, x11, x73, x807000, x807001, x807002, x820000, x820001, x820002, x833000, x833001, x833002 => if x73 = true then (some false) else ((laws_markPainting.f k x833000 x833001 x833002 1).bind fun bt843 => ((laws_heldPainting.f k x833000 x833001 bt843.2 1).bind fun t845 => (if t845 < 0 then (some false) else (if t845 = bt843.1 then ((laws_toPainting.f k x807000 x807001 x807002).bind fun bt846 => ((impl_PaintPair.f k bt846.1 bt846.2.1 bt846.2.2 x1 x2 x3).bind fun bt851 => ((laws_eqPainting.f k bt851.1 bt851.2.1 bt851.2.2.1 x820000 x820001 x820002).bind fun t858 => (if t858 = true then (laws_FnExactPaintPair.j2 k bt843.1 (bt851.2.2.2 != x11) x833000 x833001 bt843.2) else (laws_FnExactPaintPair.j2 k bt843.1 true x833000 x833001 bt843.2))))) else (some false)))))
def laws_FnExactPaintPair.j2 : Nat → Int → Bool → Int → Int → List Int → Option (Bool)
 | 0, _, _, _, _, _ => none
 | k + 1, x16, x102, x833000, x833001, x833002 => if x102 = true then (some false) else ((laws_heldPainting.f k x833000 x833001 x833002 1).bind fun t859 => (if t859 < 0 then (some false) else (if t859 = x16 then (some true) else (some false))))
end
def laws_FnExactPaintPair.f (k : Nat) (a0_0 : Int) (a0_1 : Int) (l0_2 : List Int) (a1 : Int) (a2 : Int) (a3 : Int) : Option (Bool) := (laws_szPainting.f a0_0 a0_1 l0_2 1048576).bind fun t807 => (if t807 < 0 then (some true) else ((laws_toPainting.f k a0_0 a0_1 l0_2).bind fun bt808 => ((spec_PaintPair.f k bt808.1 bt808.2.1 bt808.2.2 a1 a2 a3).bind fun bt813 => ((laws_toPainting.f k a0_0 a0_1 l0_2).bind fun bt820 => ((impl_PaintPair.f k bt820.1 bt820.2.1 bt820.2.2 a1 a2 a3).bind fun bt826 => ((laws_eqPainting.f k bt826.1 bt826.2.1 bt826.2.2.1 bt813.1 bt813.2.1 bt813.2.2.1).bind fun t833 => (if t833 = true then (laws_FnExactPaintPair.j0 k a1 a2 a3 bt813.2.2.2 bt826.2.2.2 (bt826.2.2.2 != bt813.2.2.2) a0_0 a0_1 l0_2 bt813.1 bt813.2.1 bt813.2.2.1 bt820.1 bt820.2.1 bt820.2.2 bt826.1 bt826.2.1 bt826.2.2.1) else (laws_FnExactPaintPair.j0 k a1 a2 a3 bt813.2.2.2 bt826.2.2.2 true a0_0 a0_1 l0_2 bt813.1 bt813.2.1 bt813.2.2.1 bt820.1 bt820.2.1 bt820.2.2 bt826.1 bt826.2.1 bt826.2.2.1))))))))
theorem laws_FnExactPaintPair.mono_l : ∀ k, (∀ y0 y1 y2 y3 y4 y5 y6 y7 y8 y9 y10 y11 y12 y13 y14 y15 y16 y17, LeO (laws_FnExactPaintPair.j0 k y0 y1 y2 y3 y4 y5 y6 y7 y8 y9 y10 y11 y12 y13 y14 y15 y16 y17) (laws_FnExactPaintPair.j0 (k + 1) y0 y1 y2 y3 y4 y5 y6 y7 y8 y9 y10 y11 y12 y13 y14 y15 y16 y17)) ∧ (∀ y0 y1 y2 y3 y4 y5 y6 y7 y8 y9 y10 y11 y12 y13, LeO (laws_FnExactPaintPair.j1 k y0 y1 y2 y3 y4 y5 y6 y7 y8 y9 y10 y11 y12 y13) (laws_FnExactPaintPair.j1 (k + 1) y0 y1 y2 y3 y4 y5 y6 y7 y8 y9 y10 y11 y12 y13)) ∧ (∀ y0 y1 y2 y3 y4, LeO (laws_FnExactPaintPair.j2 k y0 y1 y2 y3 y4) (laws_FnExactPaintPair.j2 (k + 1) y0 y1 y2 y3 y4))
 | 0 => ⟨fun _ _ _ _ _ _ _ _ _ _ _ _ _ _ _ _ _ _ r h => by simp [laws_FnExactPaintPair.j0] at h, fun _ _ _ _ _ _ _ _ _ _ _ _ _ _ r h => by simp [laws_FnExactPaintPair.j1] at h, fun _ _ _ _ _ r h => by simp [laws_FnExactPaintPair.j2] at h⟩
 | k + 1 => by
  obtain ⟨ih0, ih1, ih2⟩ := laws_FnExactPaintPair.mono_l k
  refine ⟨?_, ?_, ?_⟩
  ·intro y0 y1 y2 y3 y4 y5 y6 y7 y8 y9 y10 y11 y12 y13 y14 y15 y16 y17
   unfold laws_FnExactPaintPair.j0
   repeat' first
   | (with_reducible exact ih0 _ _ _ _ _ _ _ _ _ _ _ _ _ _ _ _ _ _)
   | (with_reducible exact ih1 _ _ _ _ _ _ _ _ _ _ _ _ _ _)
   | (with_reducible exact ih2 _ _ _ _ _)
   | (with_reducible exact impl_PaintPair.mono _ _ _ _ _ _ _)
   | (with_reducible exact laws_eqPainting.mono _ _ _ _ _ _ _)
   | (with_reducible exact laws_heldPainting.mono _ _ _ _ _)
   | (with_reducible exact laws_markPainting.mono _ _ _ _ _)
   | (with_reducible exact laws_toPainting.mono _ _ _ _)
   | (with_reducible exact spec_PaintPair.mono _ _ _ _ _ _ _)
   | (with_reducible exact LeO.refl _)
   | (with_reducible exact LeO.none _)
   | (with_reducible refine LeO.ite ?_ ?_)
   | (with_reducible refine LeO.bind ?_ (fun _ => ?_))
   | exact ih0 _ _ _ _ _ _ _ _ _ _ _ _ _ _ _ _ _ _
   | exact ih1 _ _ _ _ _ _ _ _ _ _ _ _ _ _
   | exact ih2 _ _ _ _ _
   | exact impl_PaintPair.mono _ _ _ _ _ _ _
   | exact laws_eqPainting.mono _ _ _ _ _ _ _
   | exact laws_heldPainting.mono _ _ _ _ _
   | exact laws_markPainting.mono _ _ _ _ _
   | exact laws_toPainting.mono _ _ _ _
   | exact spec_PaintPair.mono _ _ _ _ _ _ _
   | exact LeO.none _
   | refine LeO.ite ?_ ?_
   | refine LeO.bind ?_ (fun _ => ?_)
  ·intro y0 y1 y2 y3 y4 y5 y6 y7 y8 y9 y10 y11 y12 y13
   unfold laws_FnExactPaintPair.j1
   repeat' first
   | (with_reducible exact ih0 _ _ _ _ _ _ _ _ _ _ _ _ _ _ _ _ _ _)
   | (with_reducible exact ih1 _ _ _ _ _ _ _ _ _ _ _ _ _ _)
   | (with_reducible exact ih2 _ _ _ _ _)
   | (with_reducible exact impl_PaintPair.mono _ _ _ _ _ _ _)
   | (with_reducible exact laws_eqPainting.mono _ _ _ _ _ _ _)
   | (with_reducible exact laws_heldPainting.mono _ _ _ _ _)
   | (with_reducible exact laws_markPainting.mono _ _ _ _ _)
   | (with_reducible exact laws_toPainting.mono _ _ _ _)
   | (with_reducible exact spec_PaintPair.mono _ _ _ _ _ _ _)
   | (with_reducible exact LeO.refl _)
   | (with_reducible exact LeO.none _)
   | (with_reducible refine LeO.ite ?_ ?_)
   | (with_reducible refine LeO.bind ?_ (fun _ => ?_))
   | exact ih0 _ _ _ _ _ _ _ _ _ _ _ _ _ _ _ _ _ _
   | exact ih1 _ _ _ _ _ _ _ _ _ _ _ _ _ _
   | exact ih2 _ _ _ _ _
   | exact impl_PaintPair.mono _ _ _ _ _ _ _
   | exact laws_eqPainting.mono _ _ _ _ _ _ _
   | exact laws_heldPainting.mono _ _ _ _ _
   | exact laws_markPainting.mono _ _ _ _ _
   | exact laws_toPainting.mono _ _ _ _
   | exact spec_PaintPair.mono _ _ _ _ _ _ _
   | exact LeO.none _
   | refine LeO.ite ?_ ?_
   | refine LeO.bind ?_ (fun _ => ?_)
  ·intro y0 y1 y2 y3 y4
   unfold laws_FnExactPaintPair.j2
   repeat' first
   | (with_reducible exact ih0 _ _ _ _ _ _ _ _ _ _ _ _ _ _ _ _ _ _)
   | (with_reducible exact ih1 _ _ _ _ _ _ _ _ _ _ _ _ _ _)
   | (with_reducible exact ih2 _ _ _ _ _)
   | (with_reducible exact impl_PaintPair.mono _ _ _ _ _ _ _)
   | (with_reducible exact laws_eqPainting.mono _ _ _ _ _ _ _)
   | (with_reducible exact laws_heldPainting.mono _ _ _ _ _)
   | (with_reducible exact laws_markPainting.mono _ _ _ _ _)
   | (with_reducible exact laws_toPainting.mono _ _ _ _)
   | (with_reducible exact spec_PaintPair.mono _ _ _ _ _ _ _)
   | (with_reducible exact LeO.refl _)
   | (with_reducible exact LeO.none _)
   | (with_reducible refine LeO.ite ?_ ?_)
   | (with_reducible refine LeO.bind ?_ (fun _ => ?_))
   | exact ih0 _ _ _ _ _ _ _ _ _ _ _ _ _ _ _ _ _ _
   | exact ih1 _ _ _ _ _ _ _ _ _ _ _ _ _ _
   | exact ih2 _ _ _ _ _
   | exact impl_PaintPair.mono _ _ _ _ _ _ _
   | exact laws_eqPainting.mono _ _ _ _ _ _ _
   | exact laws_heldPainting.mono _ _ _ _ _
   | exact laws_markPainting.mono _ _ _ _ _
   | exact laws_toPainting.mono _ _ _ _
   | exact spec_PaintPair.mono _ _ _ _ _ _ _
   | exact LeO.none _
   | refine LeO.ite ?_ ?_
   | refine LeO.bind ?_ (fun _ => ?_)
theorem laws_FnExactPaintPair.mono : ∀ a0 a1 a2 a3 a4 a5 k, LeO (laws_FnExactPaintPair.f k a0 a1 a2 a3 a4 a5) (laws_FnExactPaintPair.f (k + 1) a0 a1 a2 a3 a4 a5) := by
 intro a0 a1 a2 a3 a4 a5 k
 obtain ⟨ih0, ih1, ih2⟩ := laws_FnExactPaintPair.mono_l k
 unfold laws_FnExactPaintPair.f
 repeat' first
   | (with_reducible exact ih0 _ _ _ _ _ _ _ _ _ _ _ _ _ _ _ _ _ _)
   | (with_reducible exact ih1 _ _ _ _ _ _ _ _ _ _ _ _ _ _)
   | (with_reducible exact ih2 _ _ _ _ _)
   | (with_reducible exact impl_PaintPair.mono _ _ _ _ _ _ _)
   | (with_reducible exact laws_eqPainting.mono _ _ _ _ _ _ _)
   | (with_reducible exact laws_heldPainting.mono _ _ _ _ _)
   | (with_reducible exact laws_markPainting.mono _ _ _ _ _)
   | (with_reducible exact laws_toPainting.mono _ _ _ _)
   | (with_reducible exact spec_PaintPair.mono _ _ _ _ _ _ _)
   | (with_reducible exact LeO.refl _)
   | (with_reducible exact LeO.none _)
   | (with_reducible refine LeO.ite ?_ ?_)
   | (with_reducible refine LeO.bind ?_ (fun _ => ?_))
   | exact ih0 _ _ _ _ _ _ _ _ _ _ _ _ _ _ _ _ _ _
   | exact ih1 _ _ _ _ _ _ _ _ _ _ _ _ _ _
   | exact ih2 _ _ _ _ _
   | exact impl_PaintPair.mono _ _ _ _ _ _ _
   | exact laws_eqPainting.mono _ _ _ _ _ _ _
   | exact laws_heldPainting.mono _ _ _ _ _
   | exact laws_markPainting.mono _ _ _ _ _
   | exact laws_toPainting.mono _ _ _ _
   | exact spec_PaintPair.mono _ _ _ _ _ _ _
   | exact LeO.none _
   | refine LeO.ite ?_ ?_
   | refine LeO.bind ?_ (fun _ => ?_)
set_option maxHeartbeats 8000000 in
set_option maxRecDepth 100000 in
theorem laws_FnExactPaintPair.calls (k : Nat) (a0_0 : Int) (a0_1 : Int) (A0_2 : Option Addr) (c0_2 : Nat) (l0_2 : List Int) (a1 : Int) (a2 : Int) (a3 : Int) (r : Bool) (w : World) (hr0_2 : Kd.C (Kd.int .i64) w A0_2 l0_2.length l0_2) (hc0_2 : l0_2.length ≤ c0_2) (h : laws_FnExactPaintPair.f k a0_0 a0_1 l0_2 a1 a2 a3 = some r) :
  Calls Try.prog 10 #[.agg #[.int .i64 a0_0, .int .i64 a0_1, .slice A0_2 l0_2.length c0_2], .int .i64 a1, .int .i64 a2, .int .i64 a3] w fun e w' => e = .returned (.bool r) ∧ Below w.heap.size w w' := by
 have hu57 := Try.underlying57
 have hu59 := Try.underlying59
 have HR0_2 := Aside0.mk hr0_2
 have HC0_2 := Aside0.mk hc0_2
 clear hr0_2 hc0_2
 have HB := Aside0.mk (Below.refl w.heap.size w)
 have H : ((laws_szPainting.f a0_0 a0_1 l0_2 1048576).bind fun t807 => (if t807 < 0 then (some true) else ((laws_toPainting.f k a0_0 a0_1 l0_2).bind fun bt808 => ((spec_PaintPair.f k bt808.1 bt808.2.1 bt808.2.2 a1 a2 a3).bind fun bt813 => ((laws_toPainting.f k a0_0 a0_1 l0_2).bind fun bt820 => ((impl_PaintPair.f k bt820.1 bt820.2.1 bt820.2.2 a1 a2 a3).bind fun bt826 => ((laws_eqPainting.f k bt826.1 bt826.2.1 bt826.2.2.1 bt813.1 bt813.2.1 bt813.2.2.1).bind fun t833 => (if t833 = true then (laws_FnExactPaintPair.j0 k a1 a2 a3 bt813.2.2.2 bt826.2.2.2 (bt826.2.2.2 != bt813.2.2.2) a0_0 a0_1 l0_2 bt813.1 bt813.2.1 bt813.2.2.1 bt820.1 bt820.2.1 bt820.2.2 bt826.1 bt826.2.1 bt826.2.2.1) else (laws_FnExactPaintPair.j0 k a1 a2 a3 bt813.2.2.2 bt826.2.2.2 true a0_0 a0_1 l0_2 bt813.1 bt813.2.1 bt813.2.2.1 bt820.1 bt820.2.1 bt820.2.2 bt826.1 bt826.2.1 bt826.2.2.1))))))))) = some r := h
 clear h
 replace H := Option.bind_eq_some_iff.mp H
 obtain ⟨t807, A50, H⟩ := H
 replace H : (if t807 < 0 then (some true) else ((laws_toPainting.f k a0_0 a0_1 l0_2).bind fun bt808 => ((spec_PaintPair.f k bt808.1 bt808.2.1 bt808.2.2 a1 a2 a3).bind fun bt813 => ((laws_toPainting.f k a0_0 a0_1 l0_2).bind fun bt820 => ((impl_PaintPair.f k bt820.1 bt820.2.1 bt820.2.2 a1 a2 a3).bind fun bt826 => ((laws_eqPainting.f k bt826.1 bt826.2.1 bt826.2.2.1 bt813.1 bt813.2.1 bt813.2.2.1).bind fun t833 => (if t833 = true then (laws_FnExactPaintPair.j0 k a1 a2 a3 bt813.2.2.2 bt826.2.2.2 (bt826.2.2.2 != bt813.2.2.2) a0_0 a0_1 l0_2 bt813.1 bt813.2.1 bt813.2.2.1 bt820.1 bt820.2.1 bt820.2.2 bt826.1 bt826.2.1 bt826.2.2.1) else (laws_FnExactPaintPair.j0 k a1 a2 a3 bt813.2.2.2 bt826.2.2.2 true a0_0 a0_1 l0_2 bt813.1 bt813.2.1 bt813.2.2.1 bt820.1 bt820.2.1 bt820.2.2 bt826.1 bt826.2.1 bt826.2.2.1)))))))) = some r := H
 have A5 := Aside0.mk A50
 clear A50
 by_cases c6 : t807 < 0
 ·rw [if_pos c6] at H
  have c6b0 : decide (t807 < 0) = true := decide_eq_true c6
  clear c6
  obtain rfl := Option.some.inj H
  go_enter Try.func10, Try.ntmps10
  go_wp2_with (first | ((with_reducible refine gate_dst (N := 4) rfl ?_); refine box_event ?hg (N := 4) ?hd (cs := #[.int .i64 a0_0, .int .i64 a0_1, .slice A0_2 l0_2.length c0_2]) (t := 57) ?hr ?_; (case hd => rfl); (case hg => rfl); (case hr => first | (go_simp; done) | (go_simp; rfl)); intro gb806 hg w7 hbox hb; have n0_ := Aside0.mk (below_step (by repeat (first | (with_reducible first | exact HB.out | apply below_alloc | apply pw_below_drewN | apply below_drew1) | exact HB.out)) hb); have n1_ := Aside0.mk (hbox); have n2_ := Aside0.mk ((by rw [hg]; exact (below_size (by repeat (first | (with_reducible first | exact HB.out | apply below_alloc | apply pw_below_drewN | apply below_drew1) | exact HB.out))) : w.heap.size ≤ gb806)); have n3_ := n2_; clear HB; have HB := n0_; have BK806 := n1_; have GW806 := n2_; have GE806 := n3_; clear n0_ n1_ n2_ n3_; clear hb hbox hg; have hcz8_0 : w7.cell? ⟨gb806, 0, none⟩ = some (.int .i64 a0_0) := (blk_cell BK806.out 0).trans rfl; have hcz8_1 : w7.cell? ⟨gb806, 1, none⟩ = some (.int .i64 a0_1) := (blk_cell BK806.out 1).trans rfl; have hcz8_2 : w7.cell? ⟨gb806, 2, none⟩ = some (.slice A0_2 l0_2.length c0_2) := (blk_cell BK806.out 2).trans rfl; have hfz8_0 := blk_frozen BK806.out 0; have hfz8_1 := blk_frozen BK806.out 1; have hfz8_2 := blk_frozen BK806.out 2) | ((with_reducible refine gate_callee (f := 40) rfl ?_); refine goesL_ (some 22) rfl rfl Try.func40 (by kernel_rfl) rfl #[.agg #[.int .i64 a0_0, .int .i64 a0_1, .slice A0_2 l0_2.length c0_2], .int .i64 1048576] rfl (by (try simp only [List.map_toArray, List.map_cons, List.map_nil]); first | done | rfl | (simp only [List.length_drop, List.length_take]; rfl)) ?_; (with_reducible refine (laws_szPainting.calls a0_0 a0_1 _ _ l0_2 1048576 t807 _ ?side1 ?side2 A5.out).mono ?_); (case side1 => repeat (first | exact (Kd.C_below HR0_2.out HB.out) | (with_reducible refine Kd.C_alloc ?_ _) | (with_reducible refine Kd.C_drewN ?_ _) | (with_reducible refine Kd.C_drew ?_))); (case side2 => exact HC0_2.out); rintro e w9 ⟨rfl, hb⟩; refine ⟨_, rfl, ?_⟩; have n0_ := Aside0.mk (blk_below (g := gb806) (o := .cells #[.int .i64 a0_0, .int .i64 a0_1, .slice A0_2 l0_2.length c0_2] 57 (0, 0)) (by (with_reducible repeat (first | refine blk_drewN ?_ _ | refine blk_drew ?_ | refine blk_alloc ?_ _)); exact BK806.out) hb); have n1_ := Aside0.mk (below_step (by repeat (first | (with_reducible first | exact HB.out | apply below_alloc | apply pw_below_drewN | apply below_drew1 | refine below_set ?_ GE806.out) | exact HB.out)) hb); clear BK806; clear HB; have BK806 := n0_; have HB := n1_; clear n0_ n1_; (try clear hb); (try clear hb2); (try clear hk); (try clear hi)))
  go_ret
  exact ⟨by first | rfl | (simp [errW_none, errW_some] <;> rfl) | (simp [*, errW_none, errW_some] <;> rfl), by repeat (first | (with_reducible first | exact HB.out | apply below_alloc | apply pw_below_drewN | apply below_drew1 | refine below_set ?_ GE806.out) | exact HB.out)⟩
 ·rw [if_neg c6] at H
  have c6b0 : decide (t807 < 0) = false := decide_eq_false c6
  clear c6
  replace H := Option.bind_eq_some_iff.mp H
  obtain ⟨⟨t808, t809, t810⟩, A100, H⟩ := H
  replace H : ((spec_PaintPair.f k t808 t809 t810 a1 a2 a3).bind fun bt813 => ((laws_toPainting.f k a0_0 a0_1 l0_2).bind fun bt820 => ((impl_PaintPair.f k bt820.1 bt820.2.1 bt820.2.2 a1 a2 a3).bind fun bt826 => ((laws_eqPainting.f k bt826.1 bt826.2.1 bt826.2.2.1 bt813.1 bt813.2.1 bt813.2.2.1).bind fun t833 => (if t833 = true then (laws_FnExactPaintPair.j0 k a1 a2 a3 bt813.2.2.2 bt826.2.2.2 (bt826.2.2.2 != bt813.2.2.2) a0_0 a0_1 l0_2 bt813.1 bt813.2.1 bt813.2.2.1 bt820.1 bt820.2.1 bt820.2.2 bt826.1 bt826.2.1 bt826.2.2.1) else (laws_FnExactPaintPair.j0 k a1 a2 a3 bt813.2.2.2 bt826.2.2.2 true a0_0 a0_1 l0_2 bt813.1 bt813.2.1 bt813.2.2.1 bt820.1 bt820.2.1 bt820.2.2 bt826.1 bt826.2.1 bt826.2.2.1)))))) = some r := H
  have A10 := Aside0.mk A100
  clear A100
  replace H := Option.bind_eq_some_iff.mp H
  obtain ⟨⟨t813, t814, t815, t818⟩, A110, H⟩ := H
  replace H : ((laws_toPainting.f k a0_0 a0_1 l0_2).bind fun bt820 => ((impl_PaintPair.f k bt820.1 bt820.2.1 bt820.2.2 a1 a2 a3).bind fun bt826 => ((laws_eqPainting.f k bt826.1 bt826.2.1 bt826.2.2.1 t813 t814 t815).bind fun t833 => (if t833 = true then (laws_FnExactPaintPair.j0 k a1 a2 a3 t818 bt826.2.2.2 (bt826.2.2.2 != t818) a0_0 a0_1 l0_2 t813 t814 t815 bt820.1 bt820.2.1 bt820.2.2 bt826.1 bt826.2.1 bt826.2.2.1) else (laws_FnExactPaintPair.j0 k a1 a2 a3 t818 bt826.2.2.2 true a0_0 a0_1 l0_2 t813 t814 t815 bt820.1 bt820.2.1 bt820.2.2 bt826.1 bt826.2.1 bt826.2.2.1))))) = some r := H
  have A11 := Aside0.mk A110
  clear A110
  replace H := Option.bind_eq_some_iff.mp H
  obtain ⟨⟨t820, t821, t822⟩, A120, H⟩ := H
  replace H : ((impl_PaintPair.f k t820 t821 t822 a1 a2 a3).bind fun bt826 => ((laws_eqPainting.f k bt826.1 bt826.2.1 bt826.2.2.1 t813 t814 t815).bind fun t833 => (if t833 = true then (laws_FnExactPaintPair.j0 k a1 a2 a3 t818 bt826.2.2.2 (bt826.2.2.2 != t818) a0_0 a0_1 l0_2 t813 t814 t815 t820 t821 t822 bt826.1 bt826.2.1 bt826.2.2.1) else (laws_FnExactPaintPair.j0 k a1 a2 a3 t818 bt826.2.2.2 true a0_0 a0_1 l0_2 t813 t814 t815 t820 t821 t822 bt826.1 bt826.2.1 bt826.2.2.1)))) = some r := H
  have A12 := Aside0.mk A120
  clear A120
  replace H := Option.bind_eq_some_iff.mp H
  obtain ⟨⟨t826, t827, t828, t831⟩, A130, H⟩ := H
  replace H : ((laws_eqPainting.f k t826 t827 t828 t813 t814 t815).bind fun t833 => (if t833 = true then (laws_FnExactPaintPair.j0 k a1 a2 a3 t818 t831 (t831 != t818) a0_0 a0_1 l0_2 t813 t814 t815 t820 t821 t822 t826 t827 t828) else (laws_FnExactPaintPair.j0 k a1 a2 a3 t818 t831 true a0_0 a0_1 l0_2 t813 t814 t815 t820 t821 t822 t826 t827 t828))) = some r := H
  have A13 := Aside0.mk A130
  clear A130
  have HC14 := Aside0.mk H
  clear H
  go_enter Try.func10, Try.ntmps10
  go_upto_region 8 with (first | ((with_reducible refine gate_dst (N := 4) rfl ?_); refine box_event ?hg (N := 4) ?hd (cs := #[.int .i64 a0_0, .int .i64 a0_1, .slice A0_2 l0_2.length c0_2]) (t := 57) ?hr ?_; (case hd => rfl); (case hg => rfl); (case hr => first | (go_simp; done) | (go_simp; rfl)); intro gb806 hg w15 hbox hb; have n0_ := Aside0.mk (below_step (by repeat (first | (with_reducible first | exact HB.out | apply below_alloc | apply pw_below_drewN | apply below_drew1) | exact HB.out)) hb); have n1_ := Aside0.mk (hbox); have n2_ := Aside0.mk ((by rw [hg]; exact (below_size (by repeat (first | (with_reducible first | exact HB.out | apply below_alloc | apply pw_below_drewN | apply below_drew1) | exact HB.out))) : w.heap.size ≤ gb806)); have n3_ := n2_; clear HB; have HB := n0_; have BK806 := n1_; have GW806 := n2_; have GE806 := n3_; clear n0_ n1_ n2_ n3_; clear hb hbox hg; have hcz16_0 : w15.cell? ⟨gb806, 0, none⟩ = some (.int .i64 a0_0) := (blk_cell BK806.out 0).trans rfl; have hcz16_1 : w15.cell? ⟨gb806, 1, none⟩ = some (.int .i64 a0_1) := (blk_cell BK806.out 1).trans rfl; have hcz16_2 : w15.cell? ⟨gb806, 2, none⟩ = some (.slice A0_2 l0_2.length c0_2) := (blk_cell BK806.out 2).trans rfl; have hfz16_0 := blk_frozen BK806.out 0; have hfz16_1 := blk_frozen BK806.out 1; have hfz16_2 := blk_frozen BK806.out 2) | ((with_reducible refine gate_callee (f := 40) rfl ?_); refine goesL_ (some 22) rfl rfl Try.func40 (by kernel_rfl) rfl #[.agg #[.int .i64 a0_0, .int .i64 a0_1, .slice A0_2 l0_2.length c0_2], .int .i64 1048576] rfl (by (try simp only [List.map_toArray, List.map_cons, List.map_nil]); first | done | rfl | (simp only [List.length_drop, List.length_take]; rfl)) ?_; (with_reducible refine (laws_szPainting.calls a0_0 a0_1 _ _ l0_2 1048576 t807 _ ?side1 ?side2 A5.out).mono ?_); (case side1 => repeat (first | exact (Kd.C_below HR0_2.out HB.out) | (with_reducible refine Kd.C_alloc ?_ _) | (with_reducible refine Kd.C_drewN ?_ _) | (with_reducible refine Kd.C_drew ?_))); (case side2 => exact HC0_2.out); rintro e w17 ⟨rfl, hb⟩; refine ⟨_, rfl, ?_⟩; have n0_ := Aside0.mk (blk_below (g := gb806) (o := .cells #[.int .i64 a0_0, .int .i64 a0_1, .slice A0_2 l0_2.length c0_2] 57 (0, 0)) (by (with_reducible repeat (first | refine blk_drewN ?_ _ | refine blk_drew ?_ | refine blk_alloc ?_ _)); exact BK806.out) hb); have n1_ := Aside0.mk (below_step (by repeat (first | (with_reducible first | exact HB.out | apply below_alloc | apply pw_below_drewN | apply below_drew1 | refine below_set ?_ GE806.out) | exact HB.out)) hb); clear BK806; clear HB; have BK806 := n0_; have HB := n1_; clear n0_ n1_; (try clear hb); (try clear hb2); (try clear hk); (try clear hi); have hcz18_0 : w17.cell? ⟨gb806, 0, none⟩ = some (.int .i64 a0_0) := (blk_cell BK806.out 0).trans rfl; have hcz18_1 : w17.cell? ⟨gb806, 1, none⟩ = some (.int .i64 a0_1) := (blk_cell BK806.out 1).trans rfl; have hcz18_2 : w17.cell? ⟨gb806, 2, none⟩ = some (.slice A0_2 l0_2.length c0_2) := (blk_cell BK806.out 2).trans rfl; have hfz18_0 := blk_frozen BK806.out 0; have hfz18_1 := blk_frozen BK806.out 1; have hfz18_2 := blk_frozen BK806.out 2) | ((with_reducible refine gate_callee (f := 42) rfl ?_); refine goesL_ (some 27) rfl rfl Try.func42 (by kernel_rfl) rfl #[.agg #[.int .i64 a0_0, .int .i64 a0_1, .slice A0_2 l0_2.length c0_2]] rfl (by (try simp only [List.map_toArray, List.map_cons, List.map_nil]); first | done | rfl | (simp only [List.length_drop, List.length_take]; rfl)) ?_; (with_reducible refine (laws_toPainting.calls k a0_0 a0_1 _ _ l0_2 t808 t809 t810 _ ?side1 ?side2 A10.out).mono ?_); (case side1 => repeat (first | exact (Kd.C_below HR0_2.out HB.out) | (with_reducible refine Kd.C_alloc ?_ _) | (with_reducible refine Kd.C_drewN ?_ _) | (with_reducible refine Kd.C_drew ?_))); (case side2 => exact HC0_2.out); rintro e w19 ⟨v811, rfl, ho0, hb⟩; refine ⟨_, rfl, ?_⟩; have n0_ := Aside0.mk (Kd.R_lower ho0 (below_size (by repeat (first | (with_reducible first | exact HB.out | apply below_alloc | apply pw_below_drewN | apply below_drew1 | refine below_set ?_ GE806.out) | exact HB.out)))); have n1_ := Aside0.mk (blk_below (g := gb806) (o := .cells #[.int .i64 a0_0, .int .i64 a0_1, .slice A0_2 l0_2.length c0_2] 57 (0, 0)) (by (with_reducible repeat (first | refine blk_drewN ?_ _ | refine blk_drew ?_ | refine blk_alloc ?_ _)); exact BK806.out) hb); have n2_ := Aside0.mk (below_step (by repeat (first | (with_reducible first | exact HB.out | apply below_alloc | apply pw_below_drewN | apply below_drew1 | refine below_set ?_ GE806.out) | exact HB.out)) hb); clear BK806; clear HB; have HO812 := n0_; have BK806 := n1_; have HB := n2_; clear n0_ n1_ n2_; (try clear hb); (try clear hb2); (try clear hk); (try clear hi); (try clear ho0); obtain ⟨Ao20, co20, eo20⟩ := Kd.R_slice HO812.out; subst eo20) | ((with_reducible refine gate_callee (f := 47) rfl ?_); refine goesL_ (some 31) rfl rfl Try.func47 (by kernel_rfl) rfl #[.agg #[.int .i64 t808, .int .i64 t809, .slice Ao20 t810.length co20], .int .i64 a1, .int .i64 a2, .int .i64 a3] rfl (by (try simp only [List.map_toArray, List.map_cons, List.map_nil]); first | done | rfl | (simp only [List.length_drop, List.length_take]; rfl)) ?_; (with_reducible refine (spec_PaintPair.calls k t808 t809 _ _ t810 a1 a2 a3 t813 t814 t815 t818 _ ?side1 ?side2 A11.out).mono ?_); (case side1 => repeat (first | exact (Kd.R_reads' HO812.out).2.2 | (with_reducible refine Kd.C_alloc ?_ _) | (with_reducible refine Kd.C_drewN ?_ _) | (with_reducible refine Kd.C_drew ?_))); (case side2 => exact (Kd.R_reads' HO812.out).2.1); rintro e w21 ⟨v816, rfl, ho0, hb⟩; refine ⟨_, rfl, ?_⟩; have n0_ := Aside0.mk (Kd.R_elder' (by (with_reducible repeat (first | apply Kd.R_alloc | apply Kd.R_drewN | apply Kd.R_drew)); exact HO812.out) (Kd.R_base ho0) hb); have n1_ := Aside0.mk (Kd.R_lower (Kd.R_new' ho0 (Kd.R_lt (by (with_reducible repeat (first | apply Kd.R_alloc | apply Kd.R_drewN | apply Kd.R_drew)); exact HO812.out))) (below_size (by repeat (first | (with_reducible first | exact HB.out | apply below_alloc | apply pw_below_drewN | apply below_drew1 | refine below_set ?_ GE806.out) | exact HB.out)))); have n2_ := Aside0.mk (blk_below (g := gb806) (o := .cells #[.int .i64 a0_0, .int .i64 a0_1, .slice A0_2 l0_2.length c0_2] 57 (0, 0)) (by (with_reducible repeat (first | refine blk_drewN ?_ _ | refine blk_drew ?_ | refine blk_alloc ?_ _)); exact BK806.out) hb); have n3_ := Aside0.mk (below_step (by repeat (first | (with_reducible first | exact HB.out | apply below_alloc | apply pw_below_drewN | apply below_drew1 | refine below_set ?_ GE806.out) | exact HB.out)) hb); clear HO812; clear BK806; clear HB; have HO812 := n0_; have HO817 := n1_; have BK806 := n2_; have HB := n3_; clear n0_ n1_ n2_ n3_; (try clear hb); (try clear hb2); (try clear hk); (try clear hi); (try clear ho0)) | ((with_reducible refine gate_dst (N := 10) rfl ?_); refine box_event ?hg (N := 10) ?hd (cs := #[.int .i64 0, .int .i64 0, .slice none 0 0]) (t := 59) ?hr ?_; (case hd => rfl); (case hg => rfl); (case hr => first | (go_simp; done) | (go_simp; rfl)); intro gb819 hg w22 hbox hb; have n0_ := Aside0.mk (Kd.R_below (by (with_reducible repeat (first | apply Kd.R_alloc | apply Kd.R_drewN | apply Kd.R_drew)); exact HO812.out) hb); have n1_ := Aside0.mk (Kd.R_below (by (with_reducible repeat (first | apply Kd.R_alloc | apply Kd.R_drewN | apply Kd.R_drew)); exact HO817.out) hb); have n2_ := Aside0.mk (blk_below (g := gb806) (o := .cells #[.int .i64 a0_0, .int .i64 a0_1, .slice A0_2 l0_2.length c0_2] 57 (0, 0)) (by (with_reducible repeat (first | refine blk_drewN ?_ _ | refine blk_drew ?_ | refine blk_alloc ?_ _)); exact BK806.out) hb); have n3_ := Aside0.mk (below_step (by repeat (first | (with_reducible first | exact HB.out | apply below_alloc | apply pw_below_drewN | apply below_drew1 | refine below_set ?_ GE806.out) | exact HB.out)) hb); have n4_ := Aside0.mk (hbox); have n5_ := Aside0.mk ((by rw [hg]; exact (below_size (by repeat (first | (with_reducible first | exact HB.out | apply below_alloc | apply pw_below_drewN | apply below_drew1 | refine below_set ?_ GE806.out) | exact HB.out))) : w.heap.size ≤ gb819)); have n6_ := n5_; have n7_ := Aside0.mk ((by rw [hg]; exact Nat.ne_of_lt (blk_lt (g := gb806) (o := .cells #[.int .i64 a0_0, .int .i64 a0_1, .slice A0_2 l0_2.length c0_2] 57 (0, 0)) (by (with_reducible repeat (first | refine blk_drewN ?_ _ | refine blk_drew ?_ | refine blk_alloc ?_ _)); exact BK806.out)) : gb806 ≠ gb819)); have n8_ := Aside0.mk n7_.out.symm; clear HO812; clear HO817; clear BK806; clear HB; have HO812 := n0_; have HO817 := n1_; have BK806 := n2_; have HB := n3_; have BK819 := n4_; have GW819 := n5_; have GE819 := n6_; have NB806_819 := n7_; have NB819_806 := n8_; clear n0_ n1_ n2_ n3_ n4_ n5_ n6_ n7_ n8_; clear hb hbox hg; have hnb23 := NB819_806.out; have hnc23 := NB806_819.out; have hcz24_0 : w22.cell? ⟨gb819, 0, none⟩ = some (.int .i64 0) := (blk_cell BK819.out 0).trans rfl; have hcz24_1 : w22.cell? ⟨gb819, 1, none⟩ = some (.int .i64 0) := (blk_cell BK819.out 1).trans rfl; have hcz24_2 : w22.cell? ⟨gb819, 2, none⟩ = some (.slice none 0 0) := (blk_cell BK819.out 2).trans rfl; have hfz24_0 := blk_frozen BK819.out 0; have hfz24_1 := blk_frozen BK819.out 1; have hfz24_2 := blk_frozen BK819.out 2; obtain ⟨Ao25, co25, eo25⟩ := Kd.R_slice HO817.out; subst eo25; have hcz26_0 : w22.cell? ⟨gb806, 0, none⟩ = some (.int .i64 a0_0) := (blk_cell BK806.out 0).trans rfl; have hcz26_1 : w22.cell? ⟨gb806, 1, none⟩ = some (.int .i64 a0_1) := (blk_cell BK806.out 1).trans rfl; have hcz26_2 : w22.cell? ⟨gb806, 2, none⟩ = some (.slice A0_2 l0_2.length c0_2) := (blk_cell BK806.out 2).trans rfl; have hfz26_0 := blk_frozen BK806.out 0; have hfz26_1 := blk_frozen BK806.out 1; have hfz26_2 := blk_frozen BK806.out 2) | ((with_reducible refine gate_callee (f := 42) rfl ?_); refine goesL_ (some 35) rfl rfl Try.func42 (by kernel_rfl) rfl #[.agg #[.int .i64 a0_0, .int .i64 a0_1, .slice A0_2 l0_2.length c0_2]] rfl (by (try simp only [List.map_toArray, List.map_cons, List.map_nil]); first | done | rfl | (simp only [List.length_drop, List.length_take]; rfl)) ?_; (with_reducible refine (laws_toPainting.calls k a0_0 a0_1 _ _ l0_2 t820 t821 t822 _ ?side1 ?side2 A12.out).mono ?_); (case side1 => exact Kd.C_below HR0_2.out (by repeat (first | (with_reducible first | exact HB.out | apply below_alloc | apply pw_below_drewN | apply below_drew1 | refine below_set ?_ GE806.out | refine below_set ?_ GE819.out) | exact HB.out))); (case side2 => exact HC0_2.out); rintro e w27 ⟨v823, rfl, ho0, hb⟩; refine ⟨_, rfl, ?_⟩; have n0_ := Aside0.mk (Kd.R_elder' (by (with_reducible repeat (first | apply Kd.R_alloc | apply Kd.R_drewN | apply Kd.R_drew)); exact (Kd.R_mono (Kd.R_far (p := ⟨gb819, 2, none⟩) (Kd.R_far (p := ⟨gb819, 1, none⟩) (Kd.R_far (p := ⟨gb819, 0, none⟩) (Kd.R_types HO812.out BK819.out (by decide)) (fun _ hk => hk.2) (.int .i64 t813)) (fun _ hk => hk.2) (.int .i64 t814)) (fun _ hk => hk.2) (.slice Ao25 t815.length co25)) (fun _ h_ => h_.1))) (Kd.R_base ho0) hb); have n1_ := Aside0.mk (Kd.R_elder' (by (with_reducible repeat (first | apply Kd.R_alloc | apply Kd.R_drewN | apply Kd.R_drew)); exact (Kd.R_mono (Kd.R_far (p := ⟨gb819, 2, none⟩) (Kd.R_far (p := ⟨gb819, 1, none⟩) (Kd.R_far (p := ⟨gb819, 0, none⟩) (Kd.R_types HO817.out BK819.out (by decide)) (fun _ hk => hk.2) (.int .i64 t813)) (fun _ hk => hk.2) (.int .i64 t814)) (fun _ hk => hk.2) (.slice Ao25 t815.length co25)) (fun _ h_ => h_.1))) (Kd.R_base ho0) hb); have n2_ := Aside0.mk (Kd.R_lower (Kd.R_new' (Kd.R_new' ho0 (Kd.R_lt (by (with_reducible repeat (first | apply Kd.R_alloc | apply Kd.R_drewN | apply Kd.R_drew)); exact (Kd.R_mono (Kd.R_far (p := ⟨gb819, 2, none⟩) (Kd.R_far (p := ⟨gb819, 1, none⟩) (Kd.R_far (p := ⟨gb819, 0, none⟩) (Kd.R_types HO812.out BK819.out (by decide)) (fun _ hk => hk.2) (.int .i64 t813)) (fun _ hk => hk.2) (.int .i64 t814)) (fun _ hk => hk.2) (.slice Ao25 t815.length co25)) (fun _ h_ => h_.1))))) (Kd.R_lt (by (with_reducible repeat (first | apply Kd.R_alloc | apply Kd.R_drewN | apply Kd.R_drew)); exact (Kd.R_mono (Kd.R_far (p := ⟨gb819, 2, none⟩) (Kd.R_far (p := ⟨gb819, 1, none⟩) (Kd.R_far (p := ⟨gb819, 0, none⟩) (Kd.R_types HO817.out BK819.out (by decide)) (fun _ hk => hk.2) (.int .i64 t813)) (fun _ hk => hk.2) (.int .i64 t814)) (fun _ hk => hk.2) (.slice Ao25 t815.length co25)) (fun _ h_ => h_.1))))) (below_size (by repeat (first | (with_reducible first | exact HB.out | apply below_alloc | apply pw_below_drewN | apply below_drew1 | refine below_set ?_ GE806.out | refine below_set ?_ GE819.out) | exact HB.out)))); have n3_ := Aside0.mk (blk_below (g := gb806) (o := .cells #[.int .i64 a0_0, .int .i64 a0_1, .slice A0_2 l0_2.length c0_2] 57 (0, 0)) (by (with_reducible repeat (first | refine blk_drewN ?_ _ | refine blk_drew ?_ | refine blk_alloc ?_ _)); refine blk_far ?_ NB806_819.out _; (with_reducible repeat (first | refine blk_drewN ?_ _ | refine blk_drew ?_ | refine blk_alloc ?_ _)); refine blk_far ?_ NB806_819.out _; (with_reducible repeat (first | refine blk_drewN ?_ _ | refine blk_drew ?_ | refine blk_alloc ?_ _)); refine blk_far ?_ NB806_819.out _; (with_reducible repeat (first | refine blk_drewN ?_ _ | refine blk_drew ?_ | refine blk_alloc ?_ _)); exact BK806.out) hb); have n4_ := Aside0.mk (blk_below (g := gb819) (o := .cells #[.int .i64 t813, .int .i64 t814, .slice Ao25 t815.length co25] 59 (0, 0)) (by (with_reducible repeat (first | refine blk_drewN ?_ _ | refine blk_drew ?_ | refine blk_alloc ?_ _)); refine blk_put (cs := #[.int .i64 t813, .int .i64 t814, .slice none 0 0]) ?_ 2 _ rfl; (with_reducible repeat (first | refine blk_drewN ?_ _ | refine blk_drew ?_ | refine blk_alloc ?_ _)); refine blk_put (cs := #[.int .i64 t813, .int .i64 0, .slice none 0 0]) ?_ 1 _ rfl; (with_reducible repeat (first | refine blk_drewN ?_ _ | refine blk_drew ?_ | refine blk_alloc ?_ _)); refine blk_put (cs := #[.int .i64 0, .int .i64 0, .slice none 0 0]) ?_ 0 _ rfl; (with_reducible repeat (first | refine blk_drewN ?_ _ | refine blk_drew ?_ | refine blk_alloc ?_ _)); exact BK819.out) hb); have n5_ := Aside0.mk (below_step (by repeat (first | (with_reducible first | exact HB.out | apply below_alloc | apply pw_below_drewN | apply below_drew1 | refine below_set ?_ GE806.out | refine below_set ?_ GE819.out) | exact HB.out)) hb); clear HO812; clear HO817; clear BK806; clear BK819; clear HB; have HO812 := n0_; have HO817 := n1_; have HO824 := n2_; have BK806 := n3_; have BK819 := n4_; have HB := n5_; clear n0_ n1_ n2_ n3_ n4_ n5_; (try clear hb); (try clear hb2); (try clear hk); (try clear hi); (try clear ho0)) | ((with_reducible refine gate_dst (N := 12) rfl ?_); refine box_event ?hg (N := 12) ?hd (cs := #[.int .i64 0, .int .i64 0, .slice none 0 0]) (t := 59) ?hr ?_; (case hd => rfl); (case hg => rfl); (case hr => first | (go_simp; done) | (go_simp; rfl)); intro gb825 hg w28 hbox hb; have n0_ := Aside0.mk (Kd.R_below (by (with_reducible repeat (first | apply Kd.R_alloc | apply Kd.R_drewN | apply Kd.R_drew)); exact HO812.out) hb); have n1_ := Aside0.mk (Kd.R_below (by (with_reducible repeat (first | apply Kd.R_alloc | apply Kd.R_drewN | apply Kd.R_drew)); exact HO817.out) hb); have n2_ := Aside0.mk (Kd.R_below (by (with_reducible repeat (first | apply Kd.R_alloc | apply Kd.R_drewN | apply Kd.R_drew)); exact HO824.out) hb); have n3_ := Aside0.mk (blk_below (g := gb806) (o := .cells #[.int .i64 a0_0, .int .i64 a0_1, .slice A0_2 l0_2.length c0_2] 57 (0, 0)) (by (with_reducible repeat (first | refine blk_drewN ?_ _ | refine blk_drew ?_ | refine blk_alloc ?_ _)); exact BK806.out) hb); have n4_ := Aside0.mk (blk_below (g := gb819) (o := .cells #[.int .i64 t813, .int .i64 t814, .slice Ao25 t815.length co25] 59 (0, 0)) (by (with_reducible repeat (first | refine blk_drewN ?_ _ | refine blk_drew ?_ | refine blk_alloc ?_ _)); exact BK819.out) hb); have n5_ := Aside0.mk (below_step (by repeat (first | (with_reducible first | exact HB.out | apply below_alloc | apply pw_below_drewN | apply below_drew1 | refine below_set ?_ GE806.out | refine below_set ?_ GE819.out) | exact HB.out)) hb); have n6_ := Aside0.mk (hbox); have n7_ := Aside0.mk ((by rw [hg]; exact (below_size (by repeat (first | (with_reducible first | exact HB.out | apply below_alloc | apply pw_below_drewN | apply below_drew1 | refine below_set ?_ GE806.out | refine below_set ?_ GE819.out) | exact HB.out))) : w.heap.size ≤ gb825)); have n8_ := n7_; have n9_ := Aside0.mk ((by rw [hg]; exact Nat.ne_of_lt (blk_lt (g := gb806) (o := .cells #[.int .i64 a0_0, .int .i64 a0_1, .slice A0_2 l0_2.length c0_2] 57 (0, 0)) (by (with_reducible repeat (first | refine blk_drewN ?_ _ | refine blk_drew ?_ | refine blk_alloc ?_ _)); exact BK806.out)) : gb806 ≠ gb825)); have n10_ := Aside0.mk n9_.out.symm; have n11_ := Aside0.mk ((by rw [hg]; exact Nat.ne_of_lt (blk_lt (g := gb819) (o := .cells #[.int .i64 t813, .int .i64 t814, .slice Ao25 t815.length co25] 59 (0, 0)) (by (with_reducible repeat (first | refine blk_drewN ?_ _ | refine blk_drew ?_ | refine blk_alloc ?_ _)); exact BK819.out)) : gb819 ≠ gb825)); have n12_ := Aside0.mk n11_.out.symm; clear HO812; clear HO817; clear HO824; clear BK806; clear BK819; clear HB; have HO812 := n0_; have HO817 := n1_; have HO824 := n2_; have BK806 := n3_; have BK819 := n4_; have HB := n5_; have BK825 := n6_; have GW825 := n7_; have GE825 := n8_; have NB806_825 := n9_; have NB825_806 := n10_; have NB819_825 := n11_; have NB825_819 := n12_; clear n0_ n1_ n2_ n3_ n4_ n5_ n6_ n7_ n8_ n9_ n10_ n11_ n12_; clear hb hbox hg; have hnb29 := NB825_806.out; have hnc29 := NB806_825.out; have hnb30 := NB825_819.out; have hnc30 := NB819_825.out; have hcz31_0 : w28.cell? ⟨gb825, 0, none⟩ = some (.int .i64 0) := (blk_cell BK825.out 0).trans rfl; have hcz31_1 : w28.cell? ⟨gb825, 1, none⟩ = some (.int .i64 0) := (blk_cell BK825.out 1).trans rfl; have hcz31_2 : w28.cell? ⟨gb825, 2, none⟩ = some (.slice none 0 0) := (blk_cell BK825.out 2).trans rfl; have hfz31_0 := blk_frozen BK825.out 0; have hfz31_1 := blk_frozen BK825.out 1; have hfz31_2 := blk_frozen BK825.out 2; obtain ⟨Ao32, co32, eo32⟩ := Kd.R_slice HO824.out; subst eo32) | ((with_reducible refine gate_callee (f := 48) rfl ?_); refine goesL_ (some 41) rfl rfl Try.func48 (by kernel_rfl) rfl #[.agg #[.int .i64 t820, .int .i64 t821, .slice Ao32 t822.length co32], .int .i64 a1, .int .i64 a2, .int .i64 a3] rfl (by (try simp only [List.map_toArray, List.map_cons, List.map_nil]); first | done | rfl | (simp only [List.length_drop, List.length_take]; rfl)) ?_; (with_reducible refine (impl_PaintPair.calls k t820 t821 _ _ t822 a1 a2 a3 t826 t827 t828 t831 _ ?side1 ?side2 A13.out).mono ?_); (case side1 => refine (Kd.R_reads' (e := 3) (base := w.heap.size) (ok := fun k_ => ((True ∧ some k_ ≠ (.slice Ao20 t810.length co20 : Value).ownBlock) ∧ some k_ ≠ (.slice Ao25 t815.length co25 : Value).ownBlock)) (n := t822.length) (c := co32) ?_).2.2; exact (by (with_reducible repeat (first | apply Kd.R_alloc | apply Kd.R_drewN | apply Kd.R_drew)); exact (Kd.R_mono (Kd.R_far (p := ⟨gb825, 2, none⟩) (Kd.R_far (p := ⟨gb825, 1, none⟩) (Kd.R_far (p := ⟨gb825, 0, none⟩) (Kd.R_types HO824.out BK825.out (by decide)) (fun _ hk => hk.2) (.int .i64 t820)) (fun _ hk => hk.2) (.int .i64 t821)) (fun _ hk => hk.2) (.slice Ao32 t822.length co32)) (fun _ h_ => h_.1)))); (case side2 => exact (Kd.R_reads' HO824.out).2.1); rintro e w33 ⟨v829, rfl, ho0, hb⟩; refine ⟨_, rfl, ?_⟩; have n0_ := Aside0.mk (Kd.R_elder' (by (with_reducible repeat (first | apply Kd.R_alloc | apply Kd.R_drewN | apply Kd.R_drew)); exact (Kd.R_mono (Kd.R_far (p := ⟨gb825, 2, none⟩) (Kd.R_far (p := ⟨gb825, 1, none⟩) (Kd.R_far (p := ⟨gb825, 0, none⟩) (Kd.R_types HO812.out BK825.out (by decide)) (fun _ hk => hk.2) (.int .i64 t820)) (fun _ hk => hk.2) (.int .i64 t821)) (fun _ hk => hk.2) (.slice Ao32 t822.length co32)) (fun _ h_ => h_.1))) (Kd.R_base ho0) hb); have n1_ := Aside0.mk (Kd.R_elder' (by (with_reducible repeat (first | apply Kd.R_alloc | apply Kd.R_drewN | apply Kd.R_drew)); exact (Kd.R_mono (Kd.R_far (p := ⟨gb825, 2, none⟩) (Kd.R_far (p := ⟨gb825, 1, none⟩) (Kd.R_far (p := ⟨gb825, 0, none⟩) (Kd.R_types HO817.out BK825.out (by decide)) (fun _ hk => hk.2) (.int .i64 t820)) (fun _ hk => hk.2) (.int .i64 t821)) (fun _ hk => hk.2) (.slice Ao32 t822.length co32)) (fun _ h_ => h_.1))) (Kd.R_base ho0) hb); have n2_ := Aside0.mk (Kd.R_elder' (by (with_reducible repeat (first | apply Kd.R_alloc | apply Kd.R_drewN | apply Kd.R_drew)); exact (Kd.R_mono (Kd.R_far (p := ⟨gb825, 2, none⟩) (Kd.R_far (p := ⟨gb825, 1, none⟩) (Kd.R_far (p := ⟨gb825, 0, none⟩) (Kd.R_types HO824.out BK825.out (by decide)) (fun _ hk => hk.2) (.int .i64 t820)) (fun _ hk => hk.2) (.int .i64 t821)) (fun _ hk => hk.2) (.slice Ao32 t822.length co32)) (fun _ h_ => h_.1))) (Kd.R_base ho0) hb); have n3_ := Aside0.mk (Kd.R_lower (Kd.R_new' (Kd.R_new' (Kd.R_new' ho0 (Kd.R_lt (by (with_reducible repeat (first | apply Kd.R_alloc | apply Kd.R_drewN | apply Kd.R_drew)); exact (Kd.R_mono (Kd.R_far (p := ⟨gb825, 2, none⟩) (Kd.R_far (p := ⟨gb825, 1, none⟩) (Kd.R_far (p := ⟨gb825, 0, none⟩) (Kd.R_types HO812.out BK825.out (by decide)) (fun _ hk => hk.2) (.int .i64 t820)) (fun _ hk => hk.2) (.int .i64 t821)) (fun _ hk => hk.2) (.slice Ao32 t822.length co32)) (fun _ h_ => h_.1))))) (Kd.R_lt (by (with_reducible repeat (first | apply Kd.R_alloc | apply Kd.R_drewN | apply Kd.R_drew)); exact (Kd.R_mono (Kd.R_far (p := ⟨gb825, 2, none⟩) (Kd.R_far (p := ⟨gb825, 1, none⟩) (Kd.R_far (p := ⟨gb825, 0, none⟩) (Kd.R_types HO817.out BK825.out (by decide)) (fun _ hk => hk.2) (.int .i64 t820)) (fun _ hk => hk.2) (.int .i64 t821)) (fun _ hk => hk.2) (.slice Ao32 t822.length co32)) (fun _ h_ => h_.1))))) (Kd.R_lt (by (with_reducible repeat (first | apply Kd.R_alloc | apply Kd.R_drewN | apply Kd.R_drew)); exact (Kd.R_mono (Kd.R_far (p := ⟨gb825, 2, none⟩) (Kd.R_far (p := ⟨gb825, 1, none⟩) (Kd.R_far (p := ⟨gb825, 0, none⟩) (Kd.R_types HO824.out BK825.out (by decide)) (fun _ hk => hk.2) (.int .i64 t820)) (fun _ hk => hk.2) (.int .i64 t821)) (fun _ hk => hk.2) (.slice Ao32 t822.length co32)) (fun _ h_ => h_.1))))) (below_size (by repeat (first | (with_reducible first | exact HB.out | apply below_alloc | apply pw_below_drewN | apply below_drew1 | refine below_set ?_ GE806.out | refine below_set ?_ GE819.out | refine below_set ?_ GE825.out) | exact HB.out)))); have n4_ := Aside0.mk (blk_below (g := gb806) (o := .cells #[.int .i64 a0_0, .int .i64 a0_1, .slice A0_2 l0_2.length c0_2] 57 (0, 0)) (by (with_reducible repeat (first | refine blk_drewN ?_ _ | refine blk_drew ?_ | refine blk_alloc ?_ _)); refine blk_far ?_ NB806_825.out _; (with_reducible repeat (first | refine blk_drewN ?_ _ | refine blk_drew ?_ | refine blk_alloc ?_ _)); refine blk_far ?_ NB806_825.out _; (with_reducible repeat (first | refine blk_drewN ?_ _ | refine blk_drew ?_ | refine blk_alloc ?_ _)); refine blk_far ?_ NB806_825.out _; (with_reducible repeat (first | refine blk_drewN ?_ _ | refine blk_drew ?_ | refine blk_alloc ?_ _)); exact BK806.out) hb); have n5_ := Aside0.mk (blk_below (g := gb819) (o := .cells #[.int .i64 t813, .int .i64 t814, .slice Ao25 t815.length co25] 59 (0, 0)) (by (with_reducible repeat (first | refine blk_drewN ?_ _ | refine blk_drew ?_ | refine blk_alloc ?_ _)); refine blk_far ?_ NB819_825.out _; (with_reducible repeat (first | refine blk_drewN ?_ _ | refine blk_drew ?_ | refine blk_alloc ?_ _)); refine blk_far ?_ NB819_825.out _; (with_reducible repeat (first | refine blk_drewN ?_ _ | refine blk_drew ?_ | refine blk_alloc ?_ _)); refine blk_far ?_ NB819_825.out _; (with_reducible repeat (first | refine blk_drewN ?_ _ | refine blk_drew ?_ | refine blk_alloc ?_ _)); exact BK819.out) hb); have n6_ := Aside0.mk (blk_below (g := gb825) (o := .cells #[.int .i64 t820, .int .i64 t821, .slice Ao32 t822.length co32] 59 (0, 0)) (by (with_reducible repeat (first | refine blk_drewN ?_ _ | refine blk_drew ?_ | refine blk_alloc ?_ _)); refine blk_put (cs := #[.int .i64 t820, .int .i64 t821, .slice none 0 0]) ?_ 2 _ rfl; (with_reducible repeat (first | refine blk_drewN ?_ _ | refine blk_drew ?_ | refine blk_alloc ?_ _)); refine blk_put (cs := #[.int .i64 t820, .int .i64 0, .slice none 0 0]) ?_ 1 _ rfl; (with_reducible repeat (first | refine blk_drewN ?_ _ | refine blk_drew ?_ | refine blk_alloc ?_ _)); refine blk_put (cs := #[.int .i64 0, .int .i64 0, .slice none 0 0]) ?_ 0 _ rfl; (with_reducible repeat (first | refine blk_drewN ?_ _ | refine blk_drew ?_ | refine blk_alloc ?_ _)); exact BK825.out) hb); have n7_ := Aside0.mk (below_step (by repeat (first | (with_reducible first | exact HB.out | apply below_alloc | apply pw_below_drewN | apply below_drew1 | refine below_set ?_ GE806.out | refine below_set ?_ GE819.out | refine below_set ?_ GE825.out) | exact HB.out)) hb); clear HO812; clear HO817; clear HO824; clear BK806; clear BK819; clear BK825; clear HB; have HO812 := n0_; have HO817 := n1_; have HO824 := n2_; have HO830 := n3_; have BK806 := n4_; have BK819 := n5_; have BK825 := n6_; have HB := n7_; clear n0_ n1_ n2_ n3_ n4_ n5_ n6_ n7_; (try clear hb); (try clear hb2); (try clear hk); (try clear hi); (try clear ho0)) | ((with_reducible refine gate_dst (N := 13) rfl ?_); refine box_event ?hg (N := 13) ?hd (cs := #[.int .i64 0, .int .i64 0, .slice none 0 0]) (t := 59) ?hr ?_; (case hd => rfl); (case hg => rfl); (case hr => first | (go_simp; done) | (go_simp; rfl)); intro gb832 hg w34 hbox hb; have n0_ := Aside0.mk (Kd.R_below (by (with_reducible repeat (first | apply Kd.R_alloc | apply Kd.R_drewN | apply Kd.R_drew)); exact HO812.out) hb); have n1_ := Aside0.mk (Kd.R_below (by (with_reducible repeat (first | apply Kd.R_alloc | apply Kd.R_drewN | apply Kd.R_drew)); exact HO817.out) hb); have n2_ := Aside0.mk (Kd.R_below (by (with_reducible repeat (first | apply Kd.R_alloc | apply Kd.R_drewN | apply Kd.R_drew)); exact HO824.out) hb); have n3_ := Aside0.mk (Kd.R_below (by (with_reducible repeat (first | apply Kd.R_alloc | apply Kd.R_drewN | apply Kd.R_drew)); exact HO830.out) hb); have n4_ := Aside0.mk (blk_below (g := gb806) (o := .cells #[.int .i64 a0_0, .int .i64 a0_1, .slice A0_2 l0_2.length c0_2] 57 (0, 0)) (by (with_reducible repeat (first | refine blk_drewN ?_ _ | refine blk_drew ?_ | refine blk_alloc ?_ _)); exact BK806.out) hb); have n5_ := Aside0.mk (blk_below (g := gb819) (o := .cells #[.int .i64 t813, .int .i64 t814, .slice Ao25 t815.length co25] 59 (0, 0)) (by (with_reducible repeat (first | refine blk_drewN ?_ _ | refine blk_drew ?_ | refine blk_alloc ?_ _)); exact BK819.out) hb); have n6_ := Aside0.mk (blk_below (g := gb825) (o := .cells #[.int .i64 t820, .int .i64 t821, .slice Ao32 t822.length co32] 59 (0, 0)) (by (with_reducible repeat (first | refine blk_drewN ?_ _ | refine blk_drew ?_ | refine blk_alloc ?_ _)); exact BK825.out) hb); have n7_ := Aside0.mk (below_step (by repeat (first | (with_reducible first | exact HB.out | apply below_alloc | apply pw_below_drewN | apply below_drew1 | refine below_set ?_ GE806.out | refine below_set ?_ GE819.out | refine below_set ?_ GE825.out) | exact HB.out)) hb); have n8_ := Aside0.mk (hbox); have n9_ := Aside0.mk ((by rw [hg]; exact (below_size (by repeat (first | (with_reducible first | exact HB.out | apply below_alloc | apply pw_below_drewN | apply below_drew1 | refine below_set ?_ GE806.out | refine below_set ?_ GE819.out | refine below_set ?_ GE825.out) | exact HB.out))) : w.heap.size ≤ gb832)); have n10_ := n9_; have n11_ := Aside0.mk ((by rw [hg]; exact Nat.ne_of_lt (blk_lt (g := gb806) (o := .cells #[.int .i64 a0_0, .int .i64 a0_1, .slice A0_2 l0_2.length c0_2] 57 (0, 0)) (by (with_reducible repeat (first | refine blk_drewN ?_ _ | refine blk_drew ?_ | refine blk_alloc ?_ _)); exact BK806.out)) : gb806 ≠ gb832)); have n12_ := Aside0.mk n11_.out.symm; have n13_ := Aside0.mk ((by rw [hg]; exact Nat.ne_of_lt (blk_lt (g := gb819) (o := .cells #[.int .i64 t813, .int .i64 t814, .slice Ao25 t815.length co25] 59 (0, 0)) (by (with_reducible repeat (first | refine blk_drewN ?_ _ | refine blk_drew ?_ | refine blk_alloc ?_ _)); exact BK819.out)) : gb819 ≠ gb832)); have n14_ := Aside0.mk n13_.out.symm; have n15_ := Aside0.mk ((by rw [hg]; exact Nat.ne_of_lt (blk_lt (g := gb825) (o := .cells #[.int .i64 t820, .int .i64 t821, .slice Ao32 t822.length co32] 59 (0, 0)) (by (with_reducible repeat (first | refine blk_drewN ?_ _ | refine blk_drew ?_ | refine blk_alloc ?_ _)); exact BK825.out)) : gb825 ≠ gb832)); have n16_ := Aside0.mk n15_.out.symm; clear HO812; clear HO817; clear HO824; clear HO830; clear BK806; clear BK819; clear BK825; clear HB; have HO812 := n0_; have HO817 := n1_; have HO824 := n2_; have HO830 := n3_; have BK806 := n4_; have BK819 := n5_; have BK825 := n6_; have HB := n7_; have BK832 := n8_; have GW832 := n9_; have GE832 := n10_; have NB806_832 := n11_; have NB832_806 := n12_; have NB819_832 := n13_; have NB832_819 := n14_; have NB825_832 := n15_; have NB832_825 := n16_; clear n0_ n1_ n2_ n3_ n4_ n5_ n6_ n7_ n8_ n9_ n10_ n11_ n12_ n13_ n14_ n15_ n16_; clear hb hbox hg; have hnb35 := NB832_806.out; have hnc35 := NB806_832.out; have hnb36 := NB832_819.out; have hnc36 := NB819_832.out; have hnb37 := NB832_825.out; have hnc37 := NB825_832.out; have hcz38_0 : w34.cell? ⟨gb832, 0, none⟩ = some (.int .i64 0) := (blk_cell BK832.out 0).trans rfl; have hcz38_1 : w34.cell? ⟨gb832, 1, none⟩ = some (.int .i64 0) := (blk_cell BK832.out 1).trans rfl; have hcz38_2 : w34.cell? ⟨gb832, 2, none⟩ = some (.slice none 0 0) := (blk_cell BK832.out 2).trans rfl; have hfz38_0 := blk_frozen BK832.out 0; have hfz38_1 := blk_frozen BK832.out 1; have hfz38_2 := blk_frozen BK832.out 2; obtain ⟨Ao39, co39, eo39⟩ := Kd.R_slice HO830.out; subst eo39))
  (try simp only [Act.put, List.setIfInBounds_toArray, List.set_cons_zero, List.set_cons_succ])
  go_cut [52] (fun v52 wc => ∃ (kq : Nat) (x52_13 : Bool), v52 = .bool x52_13 ∧ Aside0 (laws_FnExactPaintPair.j0 kq a1 a2 a3 t818 t831 x52_13 a0_0 a0_1 l0_2 t813 t814 t815 t820 t821 t822 t826 t827 t828 = some r) ∧ Aside0 (kq ≤ k) ∧ Aside0 (Kd.R (Kd.int .i64) 3 wc w.heap.size (fun k_ => some k_ ≠ ((.slice Ao32 t822.length co32) : Value).ownBlock ∧ some k_ ≠ ((.slice Ao39 t828.length co39) : Value).ownBlock) (.slice Ao25 t815.length co25) t815) ∧ Aside0 (Kd.R (Kd.int .i64) 3 wc w.heap.size (fun k_ => some k_ ≠ ((.slice Ao25 t815.length co25) : Value).ownBlock ∧ some k_ ≠ ((.slice Ao39 t828.length co39) : Value).ownBlock) (.slice Ao32 t822.length co32) t822) ∧ Aside0 (Kd.R (Kd.int .i64) 3 wc w.heap.size (fun k_ => some k_ ≠ ((.slice Ao25 t815.length co25) : Value).ownBlock ∧ some k_ ≠ ((.slice Ao32 t822.length co32) : Value).ownBlock) (.slice Ao39 t828.length co39) t828) ∧ Aside0 (wc.heap[gb806]? = some (.cells #[.int .i64 a0_0, .int .i64 a0_1, (.slice A0_2 l0_2.length c0_2)] 57 (0, 0))) ∧ Aside0 (wc.heap[gb819]? = some (.cells #[.int .i64 t813, .int .i64 t814, (.slice Ao25 t815.length co25)] 59 (0, 0))) ∧ Aside0 (wc.heap[gb825]? = some (.cells #[.int .i64 t820, .int .i64 t821, (.slice Ao32 t822.length co32)] 59 (0, 0))) ∧ Aside0 (wc.heap[gb832]? = some (.cells #[.int .i64 t826, .int .i64 t827, (.slice Ao39 t828.length co39)] 59 (0, 0))) ∧ Aside0 (Below w.heap.size w wc))
  case first =>
   have H := HC14.out
   clear HC14
   replace H := Option.bind_eq_some_iff.mp H
   obtain ⟨t833, A400, H⟩ := H
   replace H : (if t833 = true then (laws_FnExactPaintPair.j0 k a1 a2 a3 t818 t831 (t831 != t818) a0_0 a0_1 l0_2 t813 t814 t815 t820 t821 t822 t826 t827 t828) else (laws_FnExactPaintPair.j0 k a1 a2 a3 t818 t831 true a0_0 a0_1 l0_2 t813 t814 t815 t820 t821 t822 t826 t827 t828)) = some r := H
   have A40 := Aside0.mk A400
   clear A400
   by_cases c41 : t833 = true
   ·subst c41
    have H1 : (laws_FnExactPaintPair.j0 k a1 a2 a3 t818 t831 (t831 != t818) a0_0 a0_1 l0_2 t813 t814 t815 t820 t821 t822 t826 t827 t828) = some r := by rw [if_pos rfl] at H; exact H
    clear H
    have H := H1
    clear H1
    have H' := Aside0.mk H
    clear H
    have hnb42 := NB832_806.out
    have hnc42 := NB806_832.out
    have hnb43 := NB832_819.out
    have hnc43 := NB819_832.out
    have hnb44 := NB832_825.out
    have hnc44 := NB825_832.out
    have hcz45_0 : w34.cell? ⟨gb832, 0, none⟩ = some (.int .i64 0) := (blk_cell BK832.out 0).trans rfl
    have hcz45_1 : w34.cell? ⟨gb832, 1, none⟩ = some (.int .i64 0) := (blk_cell BK832.out 1).trans rfl
    have hcz45_2 : w34.cell? ⟨gb832, 2, none⟩ = some (.slice none 0 0) := (blk_cell BK832.out 2).trans rfl
    have hfz45_0 := blk_frozen BK832.out 0
    have hfz45_1 := blk_frozen BK832.out 1
    have hfz45_2 := blk_frozen BK832.out 2
    have hnb46 := NB819_806.out
    have hnc46 := NB806_819.out
    have hnb47 := NB819_825.out
    have hnc47 := NB825_819.out
    have hcz48_0 : w34.cell? ⟨gb819, 0, none⟩ = some (.int .i64 t813) := (blk_cell BK819.out 0).trans rfl
    have hcz48_1 : w34.cell? ⟨gb819, 1, none⟩ = some (.int .i64 t814) := (blk_cell BK819.out 1).trans rfl
    have hcz48_2 : w34.cell? ⟨gb819, 2, none⟩ = some (.slice Ao25 t815.length co25) := (blk_cell BK819.out 2).trans rfl
    have hfz48_0 := blk_frozen BK819.out 0
    have hfz48_1 := blk_frozen BK819.out 1
    have hfz48_2 := blk_frozen BK819.out 2
    go_wp2_with (first | ((with_reducible refine gate_callee (f := 44) rfl ?_); refine goesL_ (some 46) rfl rfl Try.func44 (by kernel_rfl) rfl #[.agg #[.int .i64 t826, .int .i64 t827, .slice Ao39 t828.length co39], .agg #[.int .i64 t813, .int .i64 t814, .slice Ao25 t815.length co25]] rfl (by (try simp only [List.map_toArray, List.map_cons, List.map_nil]); first | done | rfl | (simp only [List.length_drop, List.length_take]; rfl)) ?_; (with_reducible refine (laws_eqPainting.calls k t826 t827 _ _ t828 t813 t814 _ _ t815 true _ ?side1 ?side2 ?side3 ?side4 A40.out).mono ?_); (case side1 => refine (Kd.R_reads' (e := 3) (base := w.heap.size) (ok := fun k_ => (((True ∧ some k_ ≠ (.slice Ao20 t810.length co20 : Value).ownBlock) ∧ some k_ ≠ (.slice Ao25 t815.length co25 : Value).ownBlock) ∧ some k_ ≠ (.slice Ao32 t822.length co32 : Value).ownBlock)) (n := t828.length) (c := co39) ?_).2.2; exact (by (with_reducible repeat (first | apply Kd.R_alloc | apply Kd.R_drewN | apply Kd.R_drew)); exact (Kd.R_mono (Kd.R_far (p := ⟨gb832, 2, none⟩) (Kd.R_far (p := ⟨gb832, 1, none⟩) (Kd.R_far (p := ⟨gb832, 0, none⟩) (Kd.R_types HO830.out BK832.out (by decide)) (fun _ hk => hk.2) (.int .i64 t826)) (fun _ hk => hk.2) (.int .i64 t827)) (fun _ hk => hk.2) (.slice Ao39 t828.length co39)) (fun _ h_ => h_.1)))); (case side2 => exact (Kd.R_reads' HO830.out).2.1); (case side3 => refine (Kd.R_reads' (e := 3) (base := w.heap.size) (ok := fun k_ => (((True ∧ some k_ ≠ (.slice Ao20 t810.length co20 : Value).ownBlock) ∧ some k_ ≠ (.slice Ao32 t822.length co32 : Value).ownBlock) ∧ some k_ ≠ (.slice Ao39 t828.length co39 : Value).ownBlock)) (n := t815.length) (c := co25) ?_).2.2; exact (by (with_reducible repeat (first | apply Kd.R_alloc | apply Kd.R_drewN | apply Kd.R_drew)); exact (Kd.R_mono (Kd.R_far (p := ⟨gb832, 2, none⟩) (Kd.R_far (p := ⟨gb832, 1, none⟩) (Kd.R_far (p := ⟨gb832, 0, none⟩) (Kd.R_types HO817.out BK832.out (by decide)) (fun _ hk => hk.2) (.int .i64 t826)) (fun _ hk => hk.2) (.int .i64 t827)) (fun _ hk => hk.2) (.slice Ao39 t828.length co39)) (fun _ h_ => h_.1)))); (case side4 => exact (Kd.R_reads' HO817.out).2.1); rintro e w49 ⟨rfl, hb⟩; refine ⟨_, rfl, ?_⟩; have n0_ := Aside0.mk (Kd.R_below (by (with_reducible repeat (first | apply Kd.R_alloc | apply Kd.R_drewN | apply Kd.R_drew)); exact (Kd.R_mono (Kd.R_far (p := ⟨gb832, 2, none⟩) (Kd.R_far (p := ⟨gb832, 1, none⟩) (Kd.R_far (p := ⟨gb832, 0, none⟩) (Kd.R_types HO812.out BK832.out (by decide)) (fun _ hk => hk.2) (.int .i64 t826)) (fun _ hk => hk.2) (.int .i64 t827)) (fun _ hk => hk.2) (.slice Ao39 t828.length co39)) (fun _ h_ => h_.1))) hb); have n1_ := Aside0.mk (Kd.R_below (by (with_reducible repeat (first | apply Kd.R_alloc | apply Kd.R_drewN | apply Kd.R_drew)); exact (Kd.R_mono (Kd.R_far (p := ⟨gb832, 2, none⟩) (Kd.R_far (p := ⟨gb832, 1, none⟩) (Kd.R_far (p := ⟨gb832, 0, none⟩) (Kd.R_types HO817.out BK832.out (by decide)) (fun _ hk => hk.2) (.int .i64 t826)) (fun _ hk => hk.2) (.int .i64 t827)) (fun _ hk => hk.2) (.slice Ao39 t828.length co39)) (fun _ h_ => h_.1))) hb); have n2_ := Aside0.mk (Kd.R_below (by (with_reducible repeat (first | apply Kd.R_alloc | apply Kd.R_drewN | apply Kd.R_drew)); exact (Kd.R_mono (Kd.R_far (p := ⟨gb832, 2, none⟩) (Kd.R_far (p := ⟨gb832, 1, none⟩) (Kd.R_far (p := ⟨gb832, 0, none⟩) (Kd.R_types HO824.out BK832.out (by decide)) (fun _ hk => hk.2) (.int .i64 t826)) (fun _ hk => hk.2) (.int .i64 t827)) (fun _ hk => hk.2) (.slice Ao39 t828.length co39)) (fun _ h_ => h_.1))) hb); have n3_ := Aside0.mk (Kd.R_below (by (with_reducible repeat (first | apply Kd.R_alloc | apply Kd.R_drewN | apply Kd.R_drew)); exact (Kd.R_mono (Kd.R_far (p := ⟨gb832, 2, none⟩) (Kd.R_far (p := ⟨gb832, 1, none⟩) (Kd.R_far (p := ⟨gb832, 0, none⟩) (Kd.R_types HO830.out BK832.out (by decide)) (fun _ hk => hk.2) (.int .i64 t826)) (fun _ hk => hk.2) (.int .i64 t827)) (fun _ hk => hk.2) (.slice Ao39 t828.length co39)) (fun _ h_ => h_.1))) hb); have n4_ := Aside0.mk (blk_below (g := gb806) (o := .cells #[.int .i64 a0_0, .int .i64 a0_1, .slice A0_2 l0_2.length c0_2] 57 (0, 0)) (by (with_reducible repeat (first | refine blk_drewN ?_ _ | refine blk_drew ?_ | refine blk_alloc ?_ _)); refine blk_far ?_ NB806_832.out _; (with_reducible repeat (first | refine blk_drewN ?_ _ | refine blk_drew ?_ | refine blk_alloc ?_ _)); refine blk_far ?_ NB806_832.out _; (with_reducible repeat (first | refine blk_drewN ?_ _ | refine blk_drew ?_ | refine blk_alloc ?_ _)); refine blk_far ?_ NB806_832.out _; (with_reducible repeat (first | refine blk_drewN ?_ _ | refine blk_drew ?_ | refine blk_alloc ?_ _)); exact BK806.out) hb); have n5_ := Aside0.mk (blk_below (g := gb819) (o := .cells #[.int .i64 t813, .int .i64 t814, .slice Ao25 t815.length co25] 59 (0, 0)) (by (with_reducible repeat (first | refine blk_drewN ?_ _ | refine blk_drew ?_ | refine blk_alloc ?_ _)); refine blk_far ?_ NB819_832.out _; (with_reducible repeat (first | refine blk_drewN ?_ _ | refine blk_drew ?_ | refine blk_alloc ?_ _)); refine blk_far ?_ NB819_832.out _; (with_reducible repeat (first | refine blk_drewN ?_ _ | refine blk_drew ?_ | refine blk_alloc ?_ _)); refine blk_far ?_ NB819_832.out _; (with_reducible repeat (first | refine blk_drewN ?_ _ | refine blk_drew ?_ | refine blk_alloc ?_ _)); exact BK819.out) hb); have n6_ := Aside0.mk (blk_below (g := gb825) (o := .cells #[.int .i64 t820, .int .i64 t821, .slice Ao32 t822.length co32] 59 (0, 0)) (by (with_reducible repeat (first | refine blk_drewN ?_ _ | refine blk_drew ?_ | refine blk_alloc ?_ _)); refine blk_far ?_ NB825_832.out _; (with_reducible repeat (first | refine blk_drewN ?_ _ | refine blk_drew ?_ | refine blk_alloc ?_ _)); refine blk_far ?_ NB825_832.out _; (with_reducible repeat (first | refine blk_drewN ?_ _ | refine blk_drew ?_ | refine blk_alloc ?_ _)); refine blk_far ?_ NB825_832.out _; (with_reducible repeat (first | refine blk_drewN ?_ _ | refine blk_drew ?_ | refine blk_alloc ?_ _)); exact BK825.out) hb); have n7_ := Aside0.mk (blk_below (g := gb832) (o := .cells #[.int .i64 t826, .int .i64 t827, .slice Ao39 t828.length co39] 59 (0, 0)) (by (with_reducible repeat (first | refine blk_drewN ?_ _ | refine blk_drew ?_ | refine blk_alloc ?_ _)); refine blk_put (cs := #[.int .i64 t826, .int .i64 t827, .slice none 0 0]) ?_ 2 _ rfl; (with_reducible repeat (first | refine blk_drewN ?_ _ | refine blk_drew ?_ | refine blk_alloc ?_ _)); refine blk_put (cs := #[.int .i64 t826, .int .i64 0, .slice none 0 0]) ?_ 1 _ rfl; (with_reducible repeat (first | refine blk_drewN ?_ _ | refine blk_drew ?_ | refine blk_alloc ?_ _)); refine blk_put (cs := #[.int .i64 0, .int .i64 0, .slice none 0 0]) ?_ 0 _ rfl; (with_reducible repeat (first | refine blk_drewN ?_ _ | refine blk_drew ?_ | refine blk_alloc ?_ _)); exact BK832.out) hb); have n8_ := Aside0.mk (below_step (by repeat (first | (with_reducible first | exact HB.out | apply below_alloc | apply pw_below_drewN | apply below_drew1 | refine below_set ?_ GE806.out | refine below_set ?_ GE819.out | refine below_set ?_ GE825.out | refine below_set ?_ GE832.out) | exact HB.out)) hb); clear HO812; clear HO817; clear HO824; clear HO830; clear BK806; clear BK819; clear BK825; clear BK832; clear HB; have HO812 := n0_; have HO817 := n1_; have HO824 := n2_; have HO830 := n3_; have BK806 := n4_; have BK819 := n5_; have BK825 := n6_; have BK832 := n7_; have HB := n8_; clear n0_ n1_ n2_ n3_ n4_ n5_ n6_ n7_ n8_; (try clear hb); (try clear hb2); (try clear hk); (try clear hi)))
    go_meet
    case rel => exact ⟨_, ((t831 != t818)), (by first | rfl | (simp; done) | (simp [*]; done)), H', ⟨by first | omega | exact Nat.le_refl _⟩, ⟨by (with_reducible repeat (first | apply Kd.R_alloc | apply Kd.R_drewN | apply Kd.R_drew)); exact Kd.R_mono HO817.out (fun _ hk => ⟨hk.1.2, hk.2⟩)⟩, ⟨by (with_reducible repeat (first | apply Kd.R_alloc | apply Kd.R_drewN | apply Kd.R_drew)); exact Kd.R_mono HO824.out (fun _ hk => ⟨hk.1.2, hk.2⟩)⟩, ⟨by (with_reducible repeat (first | apply Kd.R_alloc | apply Kd.R_drewN | apply Kd.R_drew)); exact Kd.R_mono HO830.out (fun _ hk => ⟨hk.1.2, hk.2⟩)⟩, ⟨by (with_reducible repeat (first | refine blk_drewN ?_ _ | refine blk_drew ?_ | refine blk_alloc ?_ _)); exact BK806.out⟩, ⟨by (with_reducible repeat (first | refine blk_drewN ?_ _ | refine blk_drew ?_ | refine blk_alloc ?_ _)); exact BK819.out⟩, ⟨by (with_reducible repeat (first | refine blk_drewN ?_ _ | refine blk_drew ?_ | refine blk_alloc ?_ _)); exact BK825.out⟩, ⟨by (with_reducible repeat (first | refine blk_drewN ?_ _ | refine blk_drew ?_ | refine blk_alloc ?_ _)); exact BK832.out⟩, ⟨by repeat (first | (with_reducible first | exact HB.out | apply below_alloc | apply pw_below_drewN | apply below_drew1 | refine below_set ?_ GE806.out | refine below_set ?_ GE819.out | refine below_set ?_ GE825.out | refine below_set ?_ GE832.out) | exact HB.out)⟩⟩
   ·replace c41 := Bool.eq_false_iff.mpr c41
    subst c41
    have H1 : (laws_FnExactPaintPair.j0 k a1 a2 a3 t818 t831 true a0_0 a0_1 l0_2 t813 t814 t815 t820 t821 t822 t826 t827 t828) = some r := by rw [if_neg (show ¬ (false = true) by decide)] at H; exact H
    clear H
    have H := H1
    clear H1
    have H' := Aside0.mk H
    clear H
    have hnb50 := NB832_806.out
    have hnc50 := NB806_832.out
    have hnb51 := NB832_819.out
    have hnc51 := NB819_832.out
    have hnb52 := NB832_825.out
    have hnc52 := NB825_832.out
    have hcz53_0 : w34.cell? ⟨gb832, 0, none⟩ = some (.int .i64 0) := (blk_cell BK832.out 0).trans rfl
    have hcz53_1 : w34.cell? ⟨gb832, 1, none⟩ = some (.int .i64 0) := (blk_cell BK832.out 1).trans rfl
    have hcz53_2 : w34.cell? ⟨gb832, 2, none⟩ = some (.slice none 0 0) := (blk_cell BK832.out 2).trans rfl
    have hfz53_0 := blk_frozen BK832.out 0
    have hfz53_1 := blk_frozen BK832.out 1
    have hfz53_2 := blk_frozen BK832.out 2
    have hnb54 := NB819_806.out
    have hnc54 := NB806_819.out
    have hnb55 := NB819_825.out
    have hnc55 := NB825_819.out
    have hcz56_0 : w34.cell? ⟨gb819, 0, none⟩ = some (.int .i64 t813) := (blk_cell BK819.out 0).trans rfl
    have hcz56_1 : w34.cell? ⟨gb819, 1, none⟩ = some (.int .i64 t814) := (blk_cell BK819.out 1).trans rfl
    have hcz56_2 : w34.cell? ⟨gb819, 2, none⟩ = some (.slice Ao25 t815.length co25) := (blk_cell BK819.out 2).trans rfl
    have hfz56_0 := blk_frozen BK819.out 0
    have hfz56_1 := blk_frozen BK819.out 1
    have hfz56_2 := blk_frozen BK819.out 2
    go_wp2_with (first | ((with_reducible refine gate_callee (f := 44) rfl ?_); refine goesL_ (some 46) rfl rfl Try.func44 (by kernel_rfl) rfl #[.agg #[.int .i64 t826, .int .i64 t827, .slice Ao39 t828.length co39], .agg #[.int .i64 t813, .int .i64 t814, .slice Ao25 t815.length co25]] rfl (by (try simp only [List.map_toArray, List.map_cons, List.map_nil]); first | done | rfl | (simp only [List.length_drop, List.length_take]; rfl)) ?_; (with_reducible refine (laws_eqPainting.calls k t826 t827 _ _ t828 t813 t814 _ _ t815 false _ ?side1 ?side2 ?side3 ?side4 A40.out).mono ?_); (case side1 => refine (Kd.R_reads' (e := 3) (base := w.heap.size) (ok := fun k_ => (((True ∧ some k_ ≠ (.slice Ao20 t810.length co20 : Value).ownBlock) ∧ some k_ ≠ (.slice Ao25 t815.length co25 : Value).ownBlock) ∧ some k_ ≠ (.slice Ao32 t822.length co32 : Value).ownBlock)) (n := t828.length) (c := co39) ?_).2.2; exact (by (with_reducible repeat (first | apply Kd.R_alloc | apply Kd.R_drewN | apply Kd.R_drew)); exact (Kd.R_mono (Kd.R_far (p := ⟨gb832, 2, none⟩) (Kd.R_far (p := ⟨gb832, 1, none⟩) (Kd.R_far (p := ⟨gb832, 0, none⟩) (Kd.R_types HO830.out BK832.out (by decide)) (fun _ hk => hk.2) (.int .i64 t826)) (fun _ hk => hk.2) (.int .i64 t827)) (fun _ hk => hk.2) (.slice Ao39 t828.length co39)) (fun _ h_ => h_.1)))); (case side2 => exact (Kd.R_reads' HO830.out).2.1); (case side3 => refine (Kd.R_reads' (e := 3) (base := w.heap.size) (ok := fun k_ => (((True ∧ some k_ ≠ (.slice Ao20 t810.length co20 : Value).ownBlock) ∧ some k_ ≠ (.slice Ao32 t822.length co32 : Value).ownBlock) ∧ some k_ ≠ (.slice Ao39 t828.length co39 : Value).ownBlock)) (n := t815.length) (c := co25) ?_).2.2; exact (by (with_reducible repeat (first | apply Kd.R_alloc | apply Kd.R_drewN | apply Kd.R_drew)); exact (Kd.R_mono (Kd.R_far (p := ⟨gb832, 2, none⟩) (Kd.R_far (p := ⟨gb832, 1, none⟩) (Kd.R_far (p := ⟨gb832, 0, none⟩) (Kd.R_types HO817.out BK832.out (by decide)) (fun _ hk => hk.2) (.int .i64 t826)) (fun _ hk => hk.2) (.int .i64 t827)) (fun _ hk => hk.2) (.slice Ao39 t828.length co39)) (fun _ h_ => h_.1)))); (case side4 => exact (Kd.R_reads' HO817.out).2.1); rintro e w57 ⟨rfl, hb⟩; refine ⟨_, rfl, ?_⟩; have n0_ := Aside0.mk (Kd.R_below (by (with_reducible repeat (first | apply Kd.R_alloc | apply Kd.R_drewN | apply Kd.R_drew)); exact (Kd.R_mono (Kd.R_far (p := ⟨gb832, 2, none⟩) (Kd.R_far (p := ⟨gb832, 1, none⟩) (Kd.R_far (p := ⟨gb832, 0, none⟩) (Kd.R_types HO812.out BK832.out (by decide)) (fun _ hk => hk.2) (.int .i64 t826)) (fun _ hk => hk.2) (.int .i64 t827)) (fun _ hk => hk.2) (.slice Ao39 t828.length co39)) (fun _ h_ => h_.1))) hb); have n1_ := Aside0.mk (Kd.R_below (by (with_reducible repeat (first | apply Kd.R_alloc | apply Kd.R_drewN | apply Kd.R_drew)); exact (Kd.R_mono (Kd.R_far (p := ⟨gb832, 2, none⟩) (Kd.R_far (p := ⟨gb832, 1, none⟩) (Kd.R_far (p := ⟨gb832, 0, none⟩) (Kd.R_types HO817.out BK832.out (by decide)) (fun _ hk => hk.2) (.int .i64 t826)) (fun _ hk => hk.2) (.int .i64 t827)) (fun _ hk => hk.2) (.slice Ao39 t828.length co39)) (fun _ h_ => h_.1))) hb); have n2_ := Aside0.mk (Kd.R_below (by (with_reducible repeat (first | apply Kd.R_alloc | apply Kd.R_drewN | apply Kd.R_drew)); exact (Kd.R_mono (Kd.R_far (p := ⟨gb832, 2, none⟩) (Kd.R_far (p := ⟨gb832, 1, none⟩) (Kd.R_far (p := ⟨gb832, 0, none⟩) (Kd.R_types HO824.out BK832.out (by decide)) (fun _ hk => hk.2) (.int .i64 t826)) (fun _ hk => hk.2) (.int .i64 t827)) (fun _ hk => hk.2) (.slice Ao39 t828.length co39)) (fun _ h_ => h_.1))) hb); have n3_ := Aside0.mk (Kd.R_below (by (with_reducible repeat (first | apply Kd.R_alloc | apply Kd.R_drewN | apply Kd.R_drew)); exact (Kd.R_mono (Kd.R_far (p := ⟨gb832, 2, none⟩) (Kd.R_far (p := ⟨gb832, 1, none⟩) (Kd.R_far (p := ⟨gb832, 0, none⟩) (Kd.R_types HO830.out BK832.out (by decide)) (fun _ hk => hk.2) (.int .i64 t826)) (fun _ hk => hk.2) (.int .i64 t827)) (fun _ hk => hk.2) (.slice Ao39 t828.length co39)) (fun _ h_ => h_.1))) hb); have n4_ := Aside0.mk (blk_below (g := gb806) (o := .cells #[.int .i64 a0_0, .int .i64 a0_1, .slice A0_2 l0_2.length c0_2] 57 (0, 0)) (by (with_reducible repeat (first | refine blk_drewN ?_ _ | refine blk_drew ?_ | refine blk_alloc ?_ _)); refine blk_far ?_ NB806_832.out _; (with_reducible repeat (first | refine blk_drewN ?_ _ | refine blk_drew ?_ | refine blk_alloc ?_ _)); refine blk_far ?_ NB806_832.out _; (with_reducible repeat (first | refine blk_drewN ?_ _ | refine blk_drew ?_ | refine blk_alloc ?_ _)); refine blk_far ?_ NB806_832.out _; (with_reducible repeat (first | refine blk_drewN ?_ _ | refine blk_drew ?_ | refine blk_alloc ?_ _)); exact BK806.out) hb); have n5_ := Aside0.mk (blk_below (g := gb819) (o := .cells #[.int .i64 t813, .int .i64 t814, .slice Ao25 t815.length co25] 59 (0, 0)) (by (with_reducible repeat (first | refine blk_drewN ?_ _ | refine blk_drew ?_ | refine blk_alloc ?_ _)); refine blk_far ?_ NB819_832.out _; (with_reducible repeat (first | refine blk_drewN ?_ _ | refine blk_drew ?_ | refine blk_alloc ?_ _)); refine blk_far ?_ NB819_832.out _; (with_reducible repeat (first | refine blk_drewN ?_ _ | refine blk_drew ?_ | refine blk_alloc ?_ _)); refine blk_far ?_ NB819_832.out _; (with_reducible repeat (first | refine blk_drewN ?_ _ | refine blk_drew ?_ | refine blk_alloc ?_ _)); exact BK819.out) hb); have n6_ := Aside0.mk (blk_below (g := gb825) (o := .cells #[.int .i64 t820, .int .i64 t821, .slice Ao32 t822.length co32] 59 (0, 0)) (by (with_reducible repeat (first | refine blk_drewN ?_ _ | refine blk_drew ?_ | refine blk_alloc ?_ _)); refine blk_far ?_ NB825_832.out _; (with_reducible repeat (first | refine blk_drewN ?_ _ | refine blk_drew ?_ | refine blk_alloc ?_ _)); refine blk_far ?_ NB825_832.out _; (with_reducible repeat (first | refine blk_drewN ?_ _ | refine blk_drew ?_ | refine blk_alloc ?_ _)); refine blk_far ?_ NB825_832.out _; (with_reducible repeat (first | refine blk_drewN ?_ _ | refine blk_drew ?_ | refine blk_alloc ?_ _)); exact BK825.out) hb); have n7_ := Aside0.mk (blk_below (g := gb832) (o := .cells #[.int .i64 t826, .int .i64 t827, .slice Ao39 t828.length co39] 59 (0, 0)) (by (with_reducible repeat (first | refine blk_drewN ?_ _ | refine blk_drew ?_ | refine blk_alloc ?_ _)); refine blk_put (cs := #[.int .i64 t826, .int .i64 t827, .slice none 0 0]) ?_ 2 _ rfl; (with_reducible repeat (first | refine blk_drewN ?_ _ | refine blk_drew ?_ | refine blk_alloc ?_ _)); refine blk_put (cs := #[.int .i64 t826, .int .i64 0, .slice none 0 0]) ?_ 1 _ rfl; (with_reducible repeat (first | refine blk_drewN ?_ _ | refine blk_drew ?_ | refine blk_alloc ?_ _)); refine blk_put (cs := #[.int .i64 0, .int .i64 0, .slice none 0 0]) ?_ 0 _ rfl; (with_reducible repeat (first | refine blk_drewN ?_ _ | refine blk_drew ?_ | refine blk_alloc ?_ _)); exact BK832.out) hb); have n8_ := Aside0.mk (below_step (by repeat (first | (with_reducible first | exact HB.out | apply below_alloc | apply pw_below_drewN | apply below_drew1 | refine below_set ?_ GE806.out | refine below_set ?_ GE819.out | refine below_set ?_ GE825.out | refine below_set ?_ GE832.out) | exact HB.out)) hb); clear HO812; clear HO817; clear HO824; clear HO830; clear BK806; clear BK819; clear BK825; clear BK832; clear HB; have HO812 := n0_; have HO817 := n1_; have HO824 := n2_; have HO830 := n3_; have BK806 := n4_; have BK819 := n5_; have BK825 := n6_; have BK832 := n7_; have HB := n8_; clear n0_ n1_ n2_ n3_ n4_ n5_ n6_ n7_ n8_; (try clear hb); (try clear hb2); (try clear hk); (try clear hi)))
    go_meet
    case rel => exact ⟨_, (true), (by first | rfl | (simp; done) | (simp [*]; done)), H', ⟨by first | omega | exact Nat.le_refl _⟩, ⟨by (with_reducible repeat (first | apply Kd.R_alloc | apply Kd.R_drewN | apply Kd.R_drew)); exact Kd.R_mono HO817.out (fun _ hk => ⟨hk.1.2, hk.2⟩)⟩, ⟨by (with_reducible repeat (first | apply Kd.R_alloc | apply Kd.R_drewN | apply Kd.R_drew)); exact Kd.R_mono HO824.out (fun _ hk => ⟨hk.1.2, hk.2⟩)⟩, ⟨by (with_reducible repeat (first | apply Kd.R_alloc | apply Kd.R_drewN | apply Kd.R_drew)); exact Kd.R_mono HO830.out (fun _ hk => ⟨hk.1.2, hk.2⟩)⟩, ⟨by (with_reducible repeat (first | refine blk_drewN ?_ _ | refine blk_drew ?_ | refine blk_alloc ?_ _)); exact BK806.out⟩, ⟨by (with_reducible repeat (first | refine blk_drewN ?_ _ | refine blk_drew ?_ | refine blk_alloc ?_ _)); exact BK819.out⟩, ⟨by (with_reducible repeat (first | refine blk_drewN ?_ _ | refine blk_drew ?_ | refine blk_alloc ?_ _)); exact BK825.out⟩, ⟨by (with_reducible repeat (first | refine blk_drewN ?_ _ | refine blk_drew ?_ | refine blk_alloc ?_ _)); exact BK832.out⟩, ⟨by repeat (first | (with_reducible first | exact HB.out | apply below_alloc | apply pw_below_drewN | apply below_drew1 | refine below_set ?_ GE806.out | refine below_set ?_ GE819.out | refine below_set ?_ GE825.out | refine below_set ?_ GE832.out) | exact HB.out)⟩⟩
  case rest =>
   clear HC14
   try clear c1
   try clear c2
   try clear p2
   try clear c3
   try clear c4
   try clear c5
   try clear c6
   try clear c6b0
   try clear c10
   try clear c23
   try clear c29
   try clear c30
   try clear c35
   try clear c36
   try clear c37
   try clear c40
   try clear c41
   try clear c42
   try clear c43
   try clear c44
   try clear c46
   try clear c47
   try clear c48
   try clear c50
   try clear c51
   try clear c52
   try clear c54
   try clear c55
   try clear hcz16_0
   try clear hcz16_1
   try clear hcz16_2
   try clear hcz18_0
   try clear hcz18_1
   try clear hcz18_2
   try clear hcz24_0
   try clear hcz24_1
   try clear hcz24_2
   try clear hcz26_0
   try clear hcz26_1
   try clear hcz26_2
   try clear hcz31_0
   try clear hcz31_1
   try clear hcz31_2
   try clear hcz38_0
   try clear hcz38_1
   try clear hcz38_2
   try clear hcz45_0
   try clear hcz45_1
   try clear hcz45_2
   try clear hcz48_0
   try clear hcz48_1
   try clear hcz48_2
   try clear hcz53_0
   try clear hcz53_1
   try clear hcz53_2
   try clear hcz56_0
   try clear hcz56_1
   try clear hcz56_2
   try clear hcz8_0
   try clear hcz8_1
   try clear hcz8_2
   try clear hfz16_0
   try clear hfz16_1
   try clear hfz16_2
   try clear hfz18_0
   try clear hfz18_1
   try clear hfz18_2
   try clear hfz24_0
   try clear hfz24_1
   try clear hfz24_2
   try clear hfz26_0
   try clear hfz26_1
   try clear hfz26_2
   try clear hfz31_0
   try clear hfz31_1
   try clear hfz31_2
   try clear hfz38_0
   try clear hfz38_1
   try clear hfz38_2
   try clear hfz45_0
   try clear hfz45_1
   try clear hfz45_2
   try clear hfz48_0
   try clear hfz48_1
   try clear hfz48_2
   try clear hfz53_0
   try clear hfz53_1
   try clear hfz53_2
   try clear hfz56_0
   try clear hfz56_1
   try clear hfz56_2
   try clear hfz8_0
   try clear hfz8_1
   try clear hfz8_2
   obtain ⟨kq, x52_13, rfl, HA, HJ13, HO_820002, HO_826002, HO_833002, BK806, BK819, BK825, BK832, HB⟩ := hcut
   cases kq with
   | zero => exact absurd HA.out (by simp [laws_FnExactPaintPair.j0])
   | succ kj13 =>
    have H := HA.out
    clear HA
    simp only [laws_FnExactPaintPair.j0] at H
    by_cases c58 : x52_13 = true
    ·subst c58
     have H1 : (some false) = some r := by rw [if_pos rfl] at H; exact H
     clear H
     have H := H1
     clear H1
     obtain rfl := Option.some.inj H
     go_wp2
     go_ret
     exact ⟨by first | rfl | (simp [errW_none, errW_some] <;> rfl) | (simp [*, errW_none, errW_some] <;> rfl), by repeat (first | (with_reducible first | exact HB.out | apply below_alloc | apply pw_below_drewN | apply below_drew1 | refine below_set ?_ GE806.out | refine below_set ?_ GE819.out | refine below_set ?_ GE825.out | refine below_set ?_ GE832.out) | exact HB.out)⟩
    ·replace c58 := Bool.eq_false_iff.mpr c58
     subst c58
     have H1 : ((laws_toPainting.f kj13 a0_0 a0_1 l0_2).bind fun bt834 => ((laws_eqPainting.f kj13 t820 t821 t822 bt834.1 bt834.2.1 bt834.2.2).bind fun t839 => (if t839 = true then ((laws_markPainting.f kj13 t820 t821 t822 1).bind fun bt840 => (if bt840.1 < 0 then (laws_FnExactPaintPair.j1 kj13 a1 a2 a3 t818 true a0_0 a0_1 l0_2 t813 t814 t815 t826 t827 t828) else ((laws_eqPainting.f kj13 t826 t827 t828 t813 t814 t815).bind fun t842 => (if t842 = true then (laws_FnExactPaintPair.j1 kj13 a1 a2 a3 t818 (t831 != t818) a0_0 a0_1 l0_2 t813 t814 t815 t826 t827 t828) else (laws_FnExactPaintPair.j1 kj13 a1 a2 a3 t818 true a0_0 a0_1 l0_2 t813 t814 t815 t826 t827 t828))))) else (some false)))) = some r := by rw [if_neg (show ¬ (false = true) by decide)] at H; exact H
     clear H
     have H := H1
     clear H1
     replace H := Option.bind_eq_some_iff.mp H
     obtain ⟨⟨t834, t835, t836⟩, A590, H⟩ := H
     replace H : ((laws_eqPainting.f kj13 t820 t821 t822 t834 t835 t836).bind fun t839 => (if t839 = true then ((laws_markPainting.f kj13 t820 t821 t822 1).bind fun bt840 => (if bt840.1 < 0 then (laws_FnExactPaintPair.j1 kj13 a1 a2 a3 t818 true a0_0 a0_1 l0_2 t813 t814 t815 t826 t827 t828) else ((laws_eqPainting.f kj13 t826 t827 t828 t813 t814 t815).bind fun t842 => (if t842 = true then (laws_FnExactPaintPair.j1 kj13 a1 a2 a3 t818 (t831 != t818) a0_0 a0_1 l0_2 t813 t814 t815 t826 t827 t828) else (laws_FnExactPaintPair.j1 kj13 a1 a2 a3 t818 true a0_0 a0_1 l0_2 t813 t814 t815 t826 t827 t828))))) else (some false))) = some r := H
     have A59 := Aside0.mk A590
     clear A590
     replace H := Option.bind_eq_some_iff.mp H
     obtain ⟨t839, A600, H⟩ := H
     replace H : (if t839 = true then ((laws_markPainting.f kj13 t820 t821 t822 1).bind fun bt840 => (if bt840.1 < 0 then (laws_FnExactPaintPair.j1 kj13 a1 a2 a3 t818 true a0_0 a0_1 l0_2 t813 t814 t815 t826 t827 t828) else ((laws_eqPainting.f kj13 t826 t827 t828 t813 t814 t815).bind fun t842 => (if t842 = true then (laws_FnExactPaintPair.j1 kj13 a1 a2 a3 t818 (t831 != t818) a0_0 a0_1 l0_2 t813 t814 t815 t826 t827 t828) else (laws_FnExactPaintPair.j1 kj13 a1 a2 a3 t818 true a0_0 a0_1 l0_2 t813 t814 t815 t826 t827 t828))))) else (some false)) = some r := H
     have A60 := Aside0.mk A600
     clear A600
     by_cases c61 : t839 = true
     ·subst c61
      have H1 : ((laws_markPainting.f kj13 t820 t821 t822 1).bind fun bt840 => (if bt840.1 < 0 then (laws_FnExactPaintPair.j1 kj13 a1 a2 a3 t818 true a0_0 a0_1 l0_2 t813 t814 t815 t826 t827 t828) else ((laws_eqPainting.f kj13 t826 t827 t828 t813 t814 t815).bind fun t842 => (if t842 = true then (laws_FnExactPaintPair.j1 kj13 a1 a2 a3 t818 (t831 != t818) a0_0 a0_1 l0_2 t813 t814 t815 t826 t827 t828) else (laws_FnExactPaintPair.j1 kj13 a1 a2 a3 t818 true a0_0 a0_1 l0_2 t813 t814 t815 t826 t827 t828))))) = some r := by rw [if_pos rfl] at H; exact H
      clear H
      have H := H1
      clear H1
      replace H := Option.bind_eq_some_iff.mp H
      obtain ⟨⟨t840, t841⟩, A620, H⟩ := H
      replace H : (if t840 < 0 then (laws_FnExactPaintPair.j1 kj13 a1 a2 a3 t818 true a0_0 a0_1 l0_2 t813 t814 t815 t826 t827 t828) else ((laws_eqPainting.f kj13 t826 t827 t828 t813 t814 t815).bind fun t842 => (if t842 = true then (laws_FnExactPaintPair.j1 kj13 a1 a2 a3 t818 (t831 != t818) a0_0 a0_1 l0_2 t813 t814 t815 t826 t827 t828) else (laws_FnExactPaintPair.j1 kj13 a1 a2 a3 t818 true a0_0 a0_1 l0_2 t813 t814 t815 t826 t827 t828)))) = some r := H
      have A62 := Aside0.mk A620
      clear A620
      have HC63 := Aside0.mk H
      clear H
      try go_wp2
      have n0_ := Aside0.mk (Kd.R_drew HO_820002.out)
      have n1_ := Aside0.mk (Kd.R_drew HO_826002.out)
      have n2_ := Aside0.mk (Kd.R_drew HO_833002.out)
      have n3_ := Aside0.mk (blk_drew BK806.out)
      have n4_ := Aside0.mk (blk_drew BK819.out)
      have n5_ := Aside0.mk (blk_drew BK825.out)
      have n6_ := Aside0.mk (blk_drew BK832.out)
      have n7_ := Aside0.mk (below_drew1 HB.out)
      clear HO_820002
      clear HO_826002
      clear HO_833002
      clear BK806
      clear BK819
      clear BK825
      clear BK832
      clear HB
      have HO_820002 := n0_
      have HO_826002 := n1_
      have HO_833002 := n2_
      have BK806 := n3_
      have BK819 := n4_
      have BK825 := n5_
      have BK832 := n6_
      have HB := n7_
      clear n0_ n1_ n2_ n3_ n4_ n5_ n6_ n7_
      refine start_ (n := 5) (S := fun w' => w'.cell? ⟨gb825, 0, none⟩ = some (.int .i64 t820) ∧ w'.cell? ⟨gb825, 1, none⟩ = some (.int .i64 t821) ∧ w'.cell? ⟨gb825, 2, none⟩ = some (.slice Ao32 t822.length co32) ∧ w'.cell? ⟨gb806, 0, none⟩ = some (.int .i64 a0_0) ∧ w'.cell? ⟨gb806, 1, none⟩ = some (.int .i64 a0_1) ∧ w'.cell? ⟨gb806, 2, none⟩ = some (.slice A0_2 l0_2.length c0_2)) (ds := []) #[false, false, false, false, false] (by kernel_rfl) rfl rfl ⟨(blk_cell BK825.out 0).trans rfl, (blk_cell BK825.out 1).trans rfl, (blk_cell BK825.out 2).trans rfl, (blk_cell BK806.out 0).trans rfl, (blk_cell BK806.out 1).trans rfl, (blk_cell BK806.out 2).trans rfl⟩ (fun hHeld => ?_)
      generalize wc.drew = w64 at HO_820002 HO_826002 HO_833002 BK806 BK819 BK825 BK832 HB hHeld ⊢
      refine take_ (i := 0) (N := some 53) (v := ?_) (a' := ?_) #[true, false, false, false, false] rfl rfl (by kernel_rfl) (fun _ _ _ h => h) (Or.inl ⟨by rfl, ?_⟩) hHeld ?_ ?_
      rotate_left
      ·rintro w' ⟨s0, s1, s2, s3, s4, s5⟩
       go_simp
       with_reducible rfl
      rotate_left
      ·simp only [Act.put, List.setIfInBounds_toArray, List.set_cons_zero, List.set_cons_succ, i64_w, i32_w]
       rfl
      refine take_ (i := 1) (N := some 54) (v := ?_) (a' := ?_) #[true, true, false, false, false] rfl rfl (by kernel_rfl) (fun _ _ _ h => h) (Or.inl ⟨by rfl, ?_⟩) hHeld ?_ ?_
      rotate_left
      ·rintro w' ⟨s0, s1, s2, s3, s4, s5⟩
       go_simp
       with_reducible rfl
      rotate_left
      ·simp only [Act.put, List.setIfInBounds_toArray, List.set_cons_zero, List.set_cons_succ, i64_w, i32_w]
       rfl
      refine one_ (i := 2) (N := some 55) #[true, true, true, false, false] rfl rfl (by kernel_rfl) (by decide) (fun K hK => ?_)
      refine goes_ Try.func42 (by kernel_rfl) rfl #[.agg #[.int .i64 a0_0, .int .i64 a0_1, .slice A0_2 l0_2.length c0_2]] (by rfl) rfl rfl (by (try simp only [List.map_toArray, List.map_cons, List.map_nil]); first | done | rfl | (simp only [List.length_drop, List.length_take]; rfl)) ?_
      with_reducible refine (laws_toPainting.calls kj13 a0_0 a0_1 _ _ l0_2 t834 t835 t836 _ ?side1 ?side2 A59.out).mono ?_
      (case side1 => repeat (first | exact (Kd.C_below HR0_2.out HB.out) | (with_reducible refine Kd.C_alloc ?_ _) | (with_reducible refine Kd.C_drewN ?_ _) | (with_reducible refine Kd.C_drew ?_)))
      (case side2 => exact HC0_2.out)
      rintro e w65 ⟨v837, rfl, ho0, hb⟩
      refine ⟨_, rfl, ?_⟩
      have n0_ := Aside0.mk (Kd.R_elder' (by (with_reducible repeat (first | apply Kd.R_alloc | apply Kd.R_drewN | apply Kd.R_drew)); exact HO_820002.out) (Kd.R_base ho0) hb)
      have n1_ := Aside0.mk (Kd.R_elder' (by (with_reducible repeat (first | apply Kd.R_alloc | apply Kd.R_drewN | apply Kd.R_drew)); exact HO_826002.out) (Kd.R_base ho0) hb)
      have n2_ := Aside0.mk (Kd.R_elder' (by (with_reducible repeat (first | apply Kd.R_alloc | apply Kd.R_drewN | apply Kd.R_drew)); exact HO_833002.out) (Kd.R_base ho0) hb)
      have n3_ := Aside0.mk (Kd.R_lower (Kd.R_new' (Kd.R_new' (Kd.R_new' ho0 (Kd.R_lt (by (with_reducible repeat (first | apply Kd.R_alloc | apply Kd.R_drewN | apply Kd.R_drew)); exact HO_820002.out))) (Kd.R_lt (by (with_reducible repeat (first | apply Kd.R_alloc | apply Kd.R_drewN | apply Kd.R_drew)); exact HO_826002.out))) (Kd.R_lt (by (with_reducible repeat (first | apply Kd.R_alloc | apply Kd.R_drewN | apply Kd.R_drew)); exact HO_833002.out))) (below_size (by repeat (first | (with_reducible first | exact HB.out | apply below_alloc | apply pw_below_drewN | apply below_drew1 | refine below_set ?_ GE806.out | refine below_set ?_ GE819.out | refine below_set ?_ GE825.out | refine below_set ?_ GE832.out) | exact HB.out))))
      have n4_ := Aside0.mk (blk_below (g := gb806) (o := .cells #[.int .i64 a0_0, .int .i64 a0_1, .slice A0_2 l0_2.length c0_2] 57 (0, 0)) (by (with_reducible repeat (first | refine blk_drewN ?_ _ | refine blk_drew ?_ | refine blk_alloc ?_ _)); exact BK806.out) hb)
      have n5_ := Aside0.mk (blk_below (g := gb819) (o := .cells #[.int .i64 t813, .int .i64 t814, .slice Ao25 t815.length co25] 59 (0, 0)) (by (with_reducible repeat (first | refine blk_drewN ?_ _ | refine blk_drew ?_ | refine blk_alloc ?_ _)); exact BK819.out) hb)
      have n6_ := Aside0.mk (blk_below (g := gb825) (o := .cells #[.int .i64 t820, .int .i64 t821, .slice Ao32 t822.length co32] 59 (0, 0)) (by (with_reducible repeat (first | refine blk_drewN ?_ _ | refine blk_drew ?_ | refine blk_alloc ?_ _)); exact BK825.out) hb)
      have n7_ := Aside0.mk (blk_below (g := gb832) (o := .cells #[.int .i64 t826, .int .i64 t827, .slice Ao39 t828.length co39] 59 (0, 0)) (by (with_reducible repeat (first | refine blk_drewN ?_ _ | refine blk_drew ?_ | refine blk_alloc ?_ _)); exact BK832.out) hb)
      have n8_ := Aside0.mk (below_step (by repeat (first | (with_reducible first | exact HB.out | apply below_alloc | apply pw_below_drewN | apply below_drew1 | refine below_set ?_ GE806.out | refine below_set ?_ GE819.out | refine below_set ?_ GE825.out | refine below_set ?_ GE832.out) | exact HB.out)) hb)
      clear HO_820002
      clear HO_826002
      clear HO_833002
      clear BK806
      clear BK819
      clear BK825
      clear BK832
      clear HB
      have HO_820002 := n0_
      have HO_826002 := n1_
      have HO_833002 := n2_
      have HO838 := n3_
      have BK806 := n4_
      have BK819 := n5_
      have BK825 := n6_
      have BK832 := n7_
      have HB := n8_
      clear n0_ n1_ n2_ n3_ n4_ n5_ n6_ n7_ n8_
      (try clear hb)
      (try clear hb2)
      (try clear hk)
      (try clear hi)
      (try clear ho0)
      obtain ⟨Ao66, co66, eo66⟩ := Kd.R_slice HO838.out
      (first | subst eo66 | (injection eo66 with f1_ f2_ f3_; have f4_ := f1_.symm; have f5_ := f3_.symm; clear f1_ f2_ f3_; subst f4_; subst f5_))
      refine hK.out _ _ ⟨(blk_cell BK825.out 0).trans rfl, (blk_cell BK825.out 1).trans rfl, (blk_cell BK825.out 2).trans rfl, (blk_cell BK806.out 0).trans rfl, (blk_cell BK806.out 1).trans rfl, (blk_cell BK806.out 2).trans rfl⟩ (fun hHeld => ?_)
      clear hK K
      refine norm_ (a' := ?_) ?_ ?_
      rotate_left
      ·show Act.put _ (some 55) _ = _
       simp only [Act.put, List.setIfInBounds_toArray, List.set_cons_zero, List.set_cons_succ, i64_w, i32_w]
       rfl
      refine one_ (i := 3) (N := some 56) #[true, true, true, true, false] rfl rfl (by kernel_rfl) (by decide) (fun K hK => ?_)
      refine goes_ Try.func44 (by kernel_rfl) rfl #[.agg #[.int .i64 t820, .int .i64 t821, .slice Ao32 t822.length co32], .agg #[.int .i64 t834, .int .i64 t835, .slice Ao66 t836.length co66]] (by rfl) rfl rfl (by (try simp only [List.map_toArray, List.map_cons, List.map_nil]); first | done | rfl | (simp only [List.length_drop, List.length_take]; rfl)) ?_
      with_reducible refine (laws_eqPainting.calls kj13 t820 t821 _ _ t822 t834 t835 _ _ t836 true _ ?side1 ?side2 ?side3 ?side4 A60.out).mono ?_
      (case side1 => repeat (first | exact (Kd.R_reads' HO_826002.out).2.2 | (with_reducible refine Kd.C_alloc ?_ _) | (with_reducible refine Kd.C_drewN ?_ _) | (with_reducible refine Kd.C_drew ?_)))
      (case side2 => exact (Kd.R_reads' HO_826002.out).2.1)
      (case side3 => repeat (first | exact (Kd.R_reads' HO838.out).2.2 | (with_reducible refine Kd.C_alloc ?_ _) | (with_reducible refine Kd.C_drewN ?_ _) | (with_reducible refine Kd.C_drew ?_)))
      (case side4 => exact (Kd.R_reads' HO838.out).2.1)
      rintro e w67 ⟨rfl, hb⟩
      refine ⟨_, rfl, ?_⟩
      have n0_ := Aside0.mk (Kd.R_below (by (with_reducible repeat (first | apply Kd.R_alloc | apply Kd.R_drewN | apply Kd.R_drew)); exact HO_820002.out) hb)
      have n1_ := Aside0.mk (Kd.R_below (by (with_reducible repeat (first | apply Kd.R_alloc | apply Kd.R_drewN | apply Kd.R_drew)); exact HO_826002.out) hb)
      have n2_ := Aside0.mk (Kd.R_below (by (with_reducible repeat (first | apply Kd.R_alloc | apply Kd.R_drewN | apply Kd.R_drew)); exact HO_833002.out) hb)
      have n3_ := Aside0.mk (Kd.R_below (by (with_reducible repeat (first | apply Kd.R_alloc | apply Kd.R_drewN | apply Kd.R_drew)); exact HO838.out) hb)
      have n4_ := Aside0.mk (blk_below (g := gb806) (o := .cells #[.int .i64 a0_0, .int .i64 a0_1, .slice A0_2 l0_2.length c0_2] 57 (0, 0)) (by (with_reducible repeat (first | refine blk_drewN ?_ _ | refine blk_drew ?_ | refine blk_alloc ?_ _)); exact BK806.out) hb)
      have n5_ := Aside0.mk (blk_below (g := gb819) (o := .cells #[.int .i64 t813, .int .i64 t814, .slice Ao25 t815.length co25] 59 (0, 0)) (by (with_reducible repeat (first | refine blk_drewN ?_ _ | refine blk_drew ?_ | refine blk_alloc ?_ _)); exact BK819.out) hb)
      have n6_ := Aside0.mk (blk_below (g := gb825) (o := .cells #[.int .i64 t820, .int .i64 t821, .slice Ao32 t822.length co32] 59 (0, 0)) (by (with_reducible repeat (first | refine blk_drewN ?_ _ | refine blk_drew ?_ | refine blk_alloc ?_ _)); exact BK825.out) hb)
      have n7_ := Aside0.mk (blk_below (g := gb832) (o := .cells #[.int .i64 t826, .int .i64 t827, .slice Ao39 t828.length co39] 59 (0, 0)) (by (with_reducible repeat (first | refine blk_drewN ?_ _ | refine blk_drew ?_ | refine blk_alloc ?_ _)); exact BK832.out) hb)
      have n8_ := Aside0.mk (below_step (by repeat (first | (with_reducible first | exact HB.out | apply below_alloc | apply pw_below_drewN | apply below_drew1 | refine below_set ?_ GE806.out | refine below_set ?_ GE819.out | refine below_set ?_ GE825.out | refine below_set ?_ GE832.out) | exact HB.out)) hb)
      clear HO_820002
      clear HO_826002
      clear HO_833002
      clear HO838
      clear BK806
      clear BK819
      clear BK825
      clear BK832
      clear HB
      have HO_820002 := n0_
      have HO_826002 := n1_
      have HO_833002 := n2_
      have HO838 := n3_
      have BK806 := n4_
      have BK819 := n5_
      have BK825 := n6_
      have BK832 := n7_
      have HB := n8_
      clear n0_ n1_ n2_ n3_ n4_ n5_ n6_ n7_ n8_
      (try clear hb)
      (try clear hb2)
      (try clear hk)
      (try clear hi)
      refine hK.out _ _ ⟨(blk_cell BK825.out 0).trans rfl, (blk_cell BK825.out 1).trans rfl, (blk_cell BK825.out 2).trans rfl, (blk_cell BK806.out 0).trans rfl, (blk_cell BK806.out 1).trans rfl, (blk_cell BK806.out 2).trans rfl⟩ (fun hHeld => ?_)
      clear hK K
      refine norm_ (a' := ?_) ?_ ?_
      rotate_left
      ·show Act.put _ (some 56) _ = _
       simp only [Act.put, List.setIfInBounds_toArray, List.set_cons_zero, List.set_cons_succ, i64_w, i32_w]
       rfl
      refine pure_ (i := 4) (N := some 57) (v := ?_) (a' := ?_) #[true, true, true, true, true] rfl rfl (by kernel_rfl) (fun _ _ _ h => h) (Or.inl ⟨by rfl, ?_⟩) ?_ ?_
      rotate_left
      ·intro w'
       go_simp
       with_reducible rfl
      rotate_left
      ·simp only [Act.put, List.setIfInBounds_toArray, List.set_cons_zero, List.set_cons_succ, i64_w, i32_w]
       rfl
      refine done_ (by kernel_rfl) ?_
      have hnb68 := NB825_806.out
      have hnc68 := NB806_825.out
      have hnb69 := NB825_819.out
      have hnc69 := NB819_825.out
      have hnb70 := NB825_832.out
      have hnc70 := NB832_825.out
      have hcz71_0 : w67.cell? ⟨gb825, 0, none⟩ = some (.int .i64 t820) := (blk_cell BK825.out 0).trans rfl
      have hcz71_1 : w67.cell? ⟨gb825, 1, none⟩ = some (.int .i64 t821) := (blk_cell BK825.out 1).trans rfl
      have hcz71_2 : w67.cell? ⟨gb825, 2, none⟩ = some (.slice Ao32 t822.length co32) := (blk_cell BK825.out 2).trans rfl
      have hfz71_0 := blk_frozen BK825.out 0
      have hfz71_1 := blk_frozen BK825.out 1
      have hfz71_2 := blk_frozen BK825.out 2
      go_upto_region 14 with (first | ((with_reducible refine gate_callee (f := 45) rfl ?_); refine goesL_ (some 60) rfl rfl Try.func45 (by kernel_rfl) rfl #[.agg #[.int .i64 t820, .int .i64 t821, .slice Ao32 t822.length co32], .int .i64 1] rfl (by (try simp only [List.map_toArray, List.map_cons, List.map_nil]); first | done | rfl | (simp only [List.length_drop, List.length_take]; rfl)) ?_; (with_reducible refine (laws_markPainting.calls kj13 t820 t821 (fun k_ => some k_ = (.slice Ao32 t822.length co32 : Value).ownBlock) (.slice Ao32 t822.length co32) t822 1 t840 t841 w _ ?side1 ?side2 A62.out).mono ?_); (case side1 => repeat (first | (with_reducible first | exact HB.out | apply below_alloc | apply pw_below_drewN | apply below_drew1 | refine below_set ?_ GE806.out | refine below_set ?_ GE819.out | refine below_set ?_ GE825.out | refine below_set ?_ GE832.out) | exact HB.out)); (case side2 => exact Kd.R_tight rfl HO_826002.out); rintro e w72 ⟨rfl, hy0, hb, hkp⟩; refine ⟨_, rfl, ?_⟩; have n0_ := Aside0.mk (Kd.R_mono (ok' := fun k_ => some k_ ≠ (.slice Ao32 t822.length co32 : Value).ownBlock ∧ some k_ ≠ (.slice Ao39 t828.length co39 : Value).ownBlock ∧ some k_ ≠ (.slice Ao66 t836.length co66 : Value).ownBlock) (Kd.R_keptB (HO_820002.out) hkp (fun k_ hk_ hs_ => (hk_.1.1) hs_)) (fun k_ hk_ => ⟨hk_.1.1.1, hk_.1.1.2, hk_.1.2⟩)); have n1_ := Aside0.mk (Kd.R_reok rfl hy0 (fun k_ e_ => HO_826002.out.1 k_ e_)); have n2_ := Aside0.mk (Kd.R_mono (ok' := fun k_ => some k_ ≠ (.slice Ao25 t815.length co25 : Value).ownBlock ∧ some k_ ≠ (.slice Ao32 t822.length co32 : Value).ownBlock ∧ some k_ ≠ (.slice Ao66 t836.length co66 : Value).ownBlock) (Kd.R_keptB (HO_833002.out) hkp (fun k_ hk_ hs_ => (hk_.1.2) hs_)) (fun k_ hk_ => ⟨hk_.1.1.1, hk_.1.1.2, hk_.1.2⟩)); have n3_ := Aside0.mk (blk_kept (by (with_reducible repeat (first | refine blk_drewN ?_ _ | refine blk_drew ?_ | refine blk_alloc ?_ _)); exact BK806.out) hkp (fun hs_ => (fun e_ => (Kd.R_ne HO_826002.out BK806.out (by decide)) e_) hs_)); have n4_ := Aside0.mk (blk_kept (by (with_reducible repeat (first | refine blk_drewN ?_ _ | refine blk_drew ?_ | refine blk_alloc ?_ _)); exact BK819.out) hkp (fun hs_ => (fun e_ => (Kd.R_ne HO_826002.out BK819.out (by decide)) e_) hs_)); have n5_ := Aside0.mk (blk_kept (by (with_reducible repeat (first | refine blk_drewN ?_ _ | refine blk_drew ?_ | refine blk_alloc ?_ _)); exact BK825.out) hkp (fun hs_ => (fun e_ => (Kd.R_ne HO_826002.out BK825.out (by decide)) e_) hs_)); have n6_ := Aside0.mk (blk_kept (by (with_reducible repeat (first | refine blk_drewN ?_ _ | refine blk_drew ?_ | refine blk_alloc ?_ _)); exact BK832.out) hkp (fun hs_ => (fun e_ => (Kd.R_ne HO_826002.out BK832.out (by decide)) e_) hs_)); have n7_ := Aside0.mk (Kd.R_mono (ok' := fun k_ => some k_ ≠ (.slice Ao25 t815.length co25 : Value).ownBlock ∧ some k_ ≠ (.slice Ao32 t822.length co32 : Value).ownBlock ∧ some k_ ≠ (.slice Ao39 t828.length co39 : Value).ownBlock) (Kd.R_keptB (HO838.out) hkp (fun k_ hk_ hs_ => (hk_.1.2) hs_)) (fun k_ hk_ => ⟨hk_.1.1.1.2, hk_.1.1.2, hk_.1.2⟩)); have n8_ := Aside0.mk (hb); clear HO_820002; clear HO_826002; clear HO_833002; clear BK806; clear BK819; clear BK825; clear BK832; clear HO838; clear HB; have HO_820002 := n0_; have HO_826002 := n1_; have HO_833002 := n2_; have BK806 := n3_; have BK819 := n4_; have BK825 := n5_; have BK832 := n6_; have HO838 := n7_; have HB := n8_; clear n0_ n1_ n2_ n3_ n4_ n5_ n6_ n7_ n8_; (try clear hb); (try clear hkp); (try clear hy0)))
      (try simp only [Act.put, List.setIfInBounds_toArray, List.set_cons_zero, List.set_cons_succ])
      go_cut [73] (fun v73 wc => ∃ (kq : Nat) (x73_62 : Bool), v73 = .bool x73_62 ∧ Aside0 (laws_FnExactPaintPair.j1 kq a1 a2 a3 t818 x73_62 a0_0 a0_1 l0_2 t813 t814 t815 t826 t827 t828 = some r) ∧ Aside0 (kq ≤ kj13) ∧ Aside0 (Kd.R (Kd.int .i64) 3 wc w.heap.size (fun k_ => some k_ ≠ ((.slice Ao32 t822.length co32) : Value).ownBlock ∧ some k_ ≠ ((.slice Ao39 t828.length co39) : Value).ownBlock) (.slice Ao25 t815.length co25) t815) ∧ Aside0 (Kd.R (Kd.int .i64) 3 wc w.heap.size (fun k_ => some k_ ≠ ((.slice Ao25 t815.length co25) : Value).ownBlock ∧ some k_ ≠ ((.slice Ao39 t828.length co39) : Value).ownBlock) (.slice Ao32 t822.length co32) t841) ∧ Aside0 (Kd.R (Kd.int .i64) 3 wc w.heap.size (fun k_ => some k_ ≠ ((.slice Ao25 t815.length co25) : Value).ownBlock ∧ some k_ ≠ ((.slice Ao32 t822.length co32) : Value).ownBlock) (.slice Ao39 t828.length co39) t828) ∧ Aside0 (wc.heap[gb806]? = some (.cells #[.int .i64 a0_0, .int .i64 a0_1, (.slice A0_2 l0_2.length c0_2)] 57 (0, 0))) ∧ Aside0 (wc.heap[gb819]? = some (.cells #[.int .i64 t813, .int .i64 t814, (.slice Ao25 t815.length co25)] 59 (0, 0))) ∧ Aside0 (wc.heap[gb825]? = some (.cells #[.int .i64 t820, .int .i64 t821, (.slice Ao32 t822.length co32)] 59 (0, 0))) ∧ Aside0 (wc.heap[gb832]? = some (.cells #[.int .i64 t826, .int .i64 t827, (.slice Ao39 t828.length co39)] 59 (0, 0))) ∧ Aside0 (Below w.heap.size w wc))
      case first =>
       have H := HC63.out
       clear HC63
       by_cases c73 : t840 < 0
       ·rw [if_pos c73] at H
        have c73b0 : decide (t840 < 0) = true := decide_eq_true c73
        clear c73
        (first | rw [c73b0] | (simp only [i64_w, i32_w]; rw [c73b0]) | skip)
        have H' := Aside0.mk H
        clear H
        go_wp2
        go_meet
        case rel => exact ⟨_, (true), (by first | rfl | (simp; done) | (simp [*]; done)), H', ⟨by have := HJ13.out; first | omega | exact Nat.le_refl _⟩, ⟨by (with_reducible repeat (first | apply Kd.R_alloc | apply Kd.R_drewN | apply Kd.R_drew)); exact Kd.R_mono HO_820002.out (fun _ hk => ⟨hk.1, hk.2.1⟩)⟩, ⟨by (with_reducible repeat (first | apply Kd.R_alloc | apply Kd.R_drewN | apply Kd.R_drew)); exact Kd.R_mono HO_826002.out (fun _ hk => ⟨hk.1.1, hk.1.2⟩)⟩, ⟨by (with_reducible repeat (first | apply Kd.R_alloc | apply Kd.R_drewN | apply Kd.R_drew)); exact Kd.R_mono HO_833002.out (fun _ hk => ⟨hk.1, hk.2.1⟩)⟩, ⟨by (with_reducible repeat (first | refine blk_drewN ?_ _ | refine blk_drew ?_ | refine blk_alloc ?_ _)); exact BK806.out⟩, ⟨by (with_reducible repeat (first | refine blk_drewN ?_ _ | refine blk_drew ?_ | refine blk_alloc ?_ _)); exact BK819.out⟩, ⟨by (with_reducible repeat (first | refine blk_drewN ?_ _ | refine blk_drew ?_ | refine blk_alloc ?_ _)); exact BK825.out⟩, ⟨by (with_reducible repeat (first | refine blk_drewN ?_ _ | refine blk_drew ?_ | refine blk_alloc ?_ _)); exact BK832.out⟩, ⟨by repeat (first | (with_reducible first | exact HB.out | apply below_alloc | apply pw_below_drewN | apply below_drew1 | refine below_set ?_ GE806.out | refine below_set ?_ GE819.out | refine below_set ?_ GE825.out | refine below_set ?_ GE832.out) | exact HB.out)⟩⟩
       ·rw [if_neg c73] at H
        have c73b0 : decide (t840 < 0) = false := decide_eq_false c73
        clear c73
        (first | rw [c73b0] | (simp only [i64_w, i32_w]; rw [c73b0]) | skip)
        replace H := Option.bind_eq_some_iff.mp H
        obtain ⟨t842, A740, H⟩ := H
        replace H : (if t842 = true then (laws_FnExactPaintPair.j1 kj13 a1 a2 a3 t818 (t831 != t818) a0_0 a0_1 l0_2 t813 t814 t815 t826 t827 t828) else (laws_FnExactPaintPair.j1 kj13 a1 a2 a3 t818 true a0_0 a0_1 l0_2 t813 t814 t815 t826 t827 t828)) = some r := H
        have A74 := Aside0.mk A740
        clear A740
        by_cases c75 : t842 = true
        ·subst c75
         have H1 : (laws_FnExactPaintPair.j1 kj13 a1 a2 a3 t818 (t831 != t818) a0_0 a0_1 l0_2 t813 t814 t815 t826 t827 t828) = some r := by rw [if_pos rfl] at H; exact H
         clear H
         have H := H1
         clear H1
         have H' := Aside0.mk H
         clear H
         have hnb76 := NB832_806.out
         have hnc76 := NB806_832.out
         have hnb77 := NB832_819.out
         have hnc77 := NB819_832.out
         have hnb78 := NB832_825.out
         have hnc78 := NB825_832.out
         have hcz79_0 : w72.cell? ⟨gb832, 0, none⟩ = some (.int .i64 t826) := (blk_cell BK832.out 0).trans rfl
         have hcz79_1 : w72.cell? ⟨gb832, 1, none⟩ = some (.int .i64 t827) := (blk_cell BK832.out 1).trans rfl
         have hcz79_2 : w72.cell? ⟨gb832, 2, none⟩ = some (.slice Ao39 t828.length co39) := (blk_cell BK832.out 2).trans rfl
         have hfz79_0 := blk_frozen BK832.out 0
         have hfz79_1 := blk_frozen BK832.out 1
         have hfz79_2 := blk_frozen BK832.out 2
         have hnb80 := NB819_806.out
         have hnc80 := NB806_819.out
         have hnb81 := NB819_825.out
         have hnc81 := NB825_819.out
         have hcz82_0 : w72.cell? ⟨gb819, 0, none⟩ = some (.int .i64 t813) := (blk_cell BK819.out 0).trans rfl
         have hcz82_1 : w72.cell? ⟨gb819, 1, none⟩ = some (.int .i64 t814) := (blk_cell BK819.out 1).trans rfl
         have hcz82_2 : w72.cell? ⟨gb819, 2, none⟩ = some (.slice Ao25 t815.length co25) := (blk_cell BK819.out 2).trans rfl
         have hfz82_0 := blk_frozen BK819.out 0
         have hfz82_1 := blk_frozen BK819.out 1
         have hfz82_2 := blk_frozen BK819.out 2
         go_wp2_with (first | (go_at_call 44; (with_reducible refine (laws_eqPainting.calls kj13 t826 t827 _ _ t828 t813 t814 _ _ t815 true _ ?side1 ?side2 ?side3 ?side4 A74.out).mono ?_); (case side1 => repeat (first | exact (Kd.R_reads' HO_833002.out).2.2 | (with_reducible refine Kd.C_alloc ?_ _) | (with_reducible refine Kd.C_drewN ?_ _) | (with_reducible refine Kd.C_drew ?_))); (case side2 => exact (Kd.R_reads' HO_833002.out).2.1); (case side3 => repeat (first | exact (Kd.R_reads' HO_820002.out).2.2 | (with_reducible refine Kd.C_alloc ?_ _) | (with_reducible refine Kd.C_drewN ?_ _) | (with_reducible refine Kd.C_drew ?_))); (case side4 => exact (Kd.R_reads' HO_820002.out).2.1); rintro e w83 ⟨rfl, hb⟩; have n0_ := Aside0.mk (Kd.R_below (by (with_reducible repeat (first | apply Kd.R_alloc | apply Kd.R_drewN | apply Kd.R_drew)); exact HO_820002.out) hb); have n1_ := Aside0.mk (Kd.R_below (by (with_reducible repeat (first | apply Kd.R_alloc | apply Kd.R_drewN | apply Kd.R_drew)); exact HO_826002.out) hb); have n2_ := Aside0.mk (Kd.R_below (by (with_reducible repeat (first | apply Kd.R_alloc | apply Kd.R_drewN | apply Kd.R_drew)); exact HO_833002.out) hb); have n3_ := Aside0.mk (Kd.R_below (by (with_reducible repeat (first | apply Kd.R_alloc | apply Kd.R_drewN | apply Kd.R_drew)); exact HO838.out) hb); have n4_ := Aside0.mk (blk_below (g := gb806) (o := .cells #[.int .i64 a0_0, .int .i64 a0_1, .slice A0_2 l0_2.length c0_2] 57 (0, 0)) (by (with_reducible repeat (first | refine blk_drewN ?_ _ | refine blk_drew ?_ | refine blk_alloc ?_ _)); exact BK806.out) hb); have n5_ := Aside0.mk (blk_below (g := gb819) (o := .cells #[.int .i64 t813, .int .i64 t814, .slice Ao25 t815.length co25] 59 (0, 0)) (by (with_reducible repeat (first | refine blk_drewN ?_ _ | refine blk_drew ?_ | refine blk_alloc ?_ _)); exact BK819.out) hb); have n6_ := Aside0.mk (blk_below (g := gb825) (o := .cells #[.int .i64 t820, .int .i64 t821, .slice Ao32 t822.length co32] 59 (0, 0)) (by (with_reducible repeat (first | refine blk_drewN ?_ _ | refine blk_drew ?_ | refine blk_alloc ?_ _)); exact BK825.out) hb); have n7_ := Aside0.mk (blk_below (g := gb832) (o := .cells #[.int .i64 t826, .int .i64 t827, .slice Ao39 t828.length co39] 59 (0, 0)) (by (with_reducible repeat (first | refine blk_drewN ?_ _ | refine blk_drew ?_ | refine blk_alloc ?_ _)); exact BK832.out) hb); have n8_ := Aside0.mk (below_step (by repeat (first | (with_reducible first | exact HB.out | apply below_alloc | apply pw_below_drewN | apply below_drew1 | refine below_set ?_ GE806.out | refine below_set ?_ GE819.out | refine below_set ?_ GE825.out | refine below_set ?_ GE832.out) | exact HB.out)) hb); clear HO_820002; clear HO_826002; clear HO_833002; clear HO838; clear BK806; clear BK819; clear BK825; clear BK832; clear HB; have HO_820002 := n0_; have HO_826002 := n1_; have HO_833002 := n2_; have HO838 := n3_; have BK806 := n4_; have BK819 := n5_; have BK825 := n6_; have BK832 := n7_; have HB := n8_; clear n0_ n1_ n2_ n3_ n4_ n5_ n6_ n7_ n8_; (try clear hb); (try clear hb2); (try clear hk); (try clear hi)))
         go_meet
         case rel => exact ⟨_, ((t831 != t818)), (by first | rfl | (simp; done) | (simp [*]; done)), H', ⟨by have := HJ13.out; first | omega | exact Nat.le_refl _⟩, ⟨by (with_reducible repeat (first | apply Kd.R_alloc | apply Kd.R_drewN | apply Kd.R_drew)); exact Kd.R_mono HO_820002.out (fun _ hk => ⟨hk.1, hk.2.1⟩)⟩, ⟨by (with_reducible repeat (first | apply Kd.R_alloc | apply Kd.R_drewN | apply Kd.R_drew)); exact Kd.R_mono HO_826002.out (fun _ hk => ⟨hk.1.1, hk.1.2⟩)⟩, ⟨by (with_reducible repeat (first | apply Kd.R_alloc | apply Kd.R_drewN | apply Kd.R_drew)); exact Kd.R_mono HO_833002.out (fun _ hk => ⟨hk.1, hk.2.1⟩)⟩, ⟨by (with_reducible repeat (first | refine blk_drewN ?_ _ | refine blk_drew ?_ | refine blk_alloc ?_ _)); exact BK806.out⟩, ⟨by (with_reducible repeat (first | refine blk_drewN ?_ _ | refine blk_drew ?_ | refine blk_alloc ?_ _)); exact BK819.out⟩, ⟨by (with_reducible repeat (first | refine blk_drewN ?_ _ | refine blk_drew ?_ | refine blk_alloc ?_ _)); exact BK825.out⟩, ⟨by (with_reducible repeat (first | refine blk_drewN ?_ _ | refine blk_drew ?_ | refine blk_alloc ?_ _)); exact BK832.out⟩, ⟨by repeat (first | (with_reducible first | exact HB.out | apply below_alloc | apply pw_below_drewN | apply below_drew1 | refine below_set ?_ GE806.out | refine below_set ?_ GE819.out | refine below_set ?_ GE825.out | refine below_set ?_ GE832.out) | exact HB.out)⟩⟩
        ·replace c75 := Bool.eq_false_iff.mpr c75
         subst c75
         have H1 : (laws_FnExactPaintPair.j1 kj13 a1 a2 a3 t818 true a0_0 a0_1 l0_2 t813 t814 t815 t826 t827 t828) = some r := by rw [if_neg (show ¬ (false = true) by decide)] at H; exact H
         clear H
         have H := H1
         clear H1
         have H' := Aside0.mk H
         clear H
         have hnb84 := NB832_806.out
         have hnc84 := NB806_832.out
         have hnb85 := NB832_819.out
         have hnc85 := NB819_832.out
         have hnb86 := NB832_825.out
         have hnc86 := NB825_832.out
         have hcz87_0 : w72.cell? ⟨gb832, 0, none⟩ = some (.int .i64 t826) := (blk_cell BK832.out 0).trans rfl
         have hcz87_1 : w72.cell? ⟨gb832, 1, none⟩ = some (.int .i64 t827) := (blk_cell BK832.out 1).trans rfl
         have hcz87_2 : w72.cell? ⟨gb832, 2, none⟩ = some (.slice Ao39 t828.length co39) := (blk_cell BK832.out 2).trans rfl
         have hfz87_0 := blk_frozen BK832.out 0
         have hfz87_1 := blk_frozen BK832.out 1
         have hfz87_2 := blk_frozen BK832.out 2
         have hnb88 := NB819_806.out
         have hnc88 := NB806_819.out
         have hnb89 := NB819_825.out
         have hnc89 := NB825_819.out
         have hcz90_0 : w72.cell? ⟨gb819, 0, none⟩ = some (.int .i64 t813) := (blk_cell BK819.out 0).trans rfl
         have hcz90_1 : w72.cell? ⟨gb819, 1, none⟩ = some (.int .i64 t814) := (blk_cell BK819.out 1).trans rfl
         have hcz90_2 : w72.cell? ⟨gb819, 2, none⟩ = some (.slice Ao25 t815.length co25) := (blk_cell BK819.out 2).trans rfl
         have hfz90_0 := blk_frozen BK819.out 0
         have hfz90_1 := blk_frozen BK819.out 1
         have hfz90_2 := blk_frozen BK819.out 2
         go_wp2_with (first | (go_at_call 44; (with_reducible refine (laws_eqPainting.calls kj13 t826 t827 _ _ t828 t813 t814 _ _ t815 false _ ?side1 ?side2 ?side3 ?side4 A74.out).mono ?_); (case side1 => repeat (first | exact (Kd.R_reads' HO_833002.out).2.2 | (with_reducible refine Kd.C_alloc ?_ _) | (with_reducible refine Kd.C_drewN ?_ _) | (with_reducible refine Kd.C_drew ?_))); (case side2 => exact (Kd.R_reads' HO_833002.out).2.1); (case side3 => repeat (first | exact (Kd.R_reads' HO_820002.out).2.2 | (with_reducible refine Kd.C_alloc ?_ _) | (with_reducible refine Kd.C_drewN ?_ _) | (with_reducible refine Kd.C_drew ?_))); (case side4 => exact (Kd.R_reads' HO_820002.out).2.1); rintro e w91 ⟨rfl, hb⟩; have n0_ := Aside0.mk (Kd.R_below (by (with_reducible repeat (first | apply Kd.R_alloc | apply Kd.R_drewN | apply Kd.R_drew)); exact HO_820002.out) hb); have n1_ := Aside0.mk (Kd.R_below (by (with_reducible repeat (first | apply Kd.R_alloc | apply Kd.R_drewN | apply Kd.R_drew)); exact HO_826002.out) hb); have n2_ := Aside0.mk (Kd.R_below (by (with_reducible repeat (first | apply Kd.R_alloc | apply Kd.R_drewN | apply Kd.R_drew)); exact HO_833002.out) hb); have n3_ := Aside0.mk (Kd.R_below (by (with_reducible repeat (first | apply Kd.R_alloc | apply Kd.R_drewN | apply Kd.R_drew)); exact HO838.out) hb); have n4_ := Aside0.mk (blk_below (g := gb806) (o := .cells #[.int .i64 a0_0, .int .i64 a0_1, .slice A0_2 l0_2.length c0_2] 57 (0, 0)) (by (with_reducible repeat (first | refine blk_drewN ?_ _ | refine blk_drew ?_ | refine blk_alloc ?_ _)); exact BK806.out) hb); have n5_ := Aside0.mk (blk_below (g := gb819) (o := .cells #[.int .i64 t813, .int .i64 t814, .slice Ao25 t815.length co25] 59 (0, 0)) (by (with_reducible repeat (first | refine blk_drewN ?_ _ | refine blk_drew ?_ | refine blk_alloc ?_ _)); exact BK819.out) hb); have n6_ := Aside0.mk (blk_below (g := gb825) (o := .cells #[.int .i64 t820, .int .i64 t821, .slice Ao32 t822.length co32] 59 (0, 0)) (by (with_reducible repeat (first | refine blk_drewN ?_ _ | refine blk_drew ?_ | refine blk_alloc ?_ _)); exact BK825.out) hb); have n7_ := Aside0.mk (blk_below (g := gb832) (o := .cells #[.int .i64 t826, .int .i64 t827, .slice Ao39 t828.length co39] 59 (0, 0)) (by (with_reducible repeat (first | refine blk_drewN ?_ _ | refine blk_drew ?_ | refine blk_alloc ?_ _)); exact BK832.out) hb); have n8_ := Aside0.mk (below_step (by repeat (first | (with_reducible first | exact HB.out | apply below_alloc | apply pw_below_drewN | apply below_drew1 | refine below_set ?_ GE806.out | refine below_set ?_ GE819.out | refine below_set ?_ GE825.out | refine below_set ?_ GE832.out) | exact HB.out)) hb); clear HO_820002; clear HO_826002; clear HO_833002; clear HO838; clear BK806; clear BK819; clear BK825; clear BK832; clear HB; have HO_820002 := n0_; have HO_826002 := n1_; have HO_833002 := n2_; have HO838 := n3_; have BK806 := n4_; have BK819 := n5_; have BK825 := n6_; have BK832 := n7_; have HB := n8_; clear n0_ n1_ n2_ n3_ n4_ n5_ n6_ n7_ n8_; (try clear hb); (try clear hb2); (try clear hk); (try clear hi)))
         go_meet
         case rel => exact ⟨_, (true), (by first | rfl | (simp; done) | (simp [*]; done)), H', ⟨by have := HJ13.out; first | omega | exact Nat.le_refl _⟩, ⟨by (with_reducible repeat (first | apply Kd.R_alloc | apply Kd.R_drewN | apply Kd.R_drew)); exact Kd.R_mono HO_820002.out (fun _ hk => ⟨hk.1, hk.2.1⟩)⟩, ⟨by (with_reducible repeat (first | apply Kd.R_alloc | apply Kd.R_drewN | apply Kd.R_drew)); exact Kd.R_mono HO_826002.out (fun _ hk => ⟨hk.1.1, hk.1.2⟩)⟩, ⟨by (with_reducible repeat (first | apply Kd.R_alloc | apply Kd.R_drewN | apply Kd.R_drew)); exact Kd.R_mono HO_833002.out (fun _ hk => ⟨hk.1, hk.2.1⟩)⟩, ⟨by (with_reducible repeat (first | refine blk_drewN ?_ _ | refine blk_drew ?_ | refine blk_alloc ?_ _)); exact BK806.out⟩, ⟨by (with_reducible repeat (first | refine blk_drewN ?_ _ | refine blk_drew ?_ | refine blk_alloc ?_ _)); exact BK819.out⟩, ⟨by (with_reducible repeat (first | refine blk_drewN ?_ _ | refine blk_drew ?_ | refine blk_alloc ?_ _)); exact BK825.out⟩, ⟨by (with_reducible repeat (first | refine blk_drewN ?_ _ | refine blk_drew ?_ | refine blk_alloc ?_ _)); exact BK832.out⟩, ⟨by repeat (first | (with_reducible first | exact HB.out | apply below_alloc | apply pw_below_drewN | apply below_drew1 | refine below_set ?_ GE806.out | refine below_set ?_ GE819.out | refine below_set ?_ GE825.out | refine below_set ?_ GE832.out) | exact HB.out)⟩⟩
      case rest =>
       clear HC63
       try clear c1
       try clear c2
       try clear p2
       try clear c3
       try clear c4
       try clear c5
       try clear c6
       try clear c6b0
       try clear c7
       try clear c8
       try clear c10
       try clear c23
       try clear c29
       try clear c30
       try clear c35
       try clear c36
       try clear c37
       try clear c40
       try clear c41
       try clear c42
       try clear c43
       try clear c44
       try clear c45
       try clear c46
       try clear c47
       try clear c48
       try clear c50
       try clear c51
       try clear c52
       try clear c54
       try clear c55
       try clear c58
       try clear c61
       try clear c68
       try clear c69
       try clear c70
       try clear c73
       try clear c73b0
       try clear c75
       try clear c76
       try clear c77
       try clear c78
       try clear c80
       try clear c81
       try clear c84
       try clear c85
       try clear c86
       try clear c88
       try clear c89
       try clear hcz16_0
       try clear hcz16_1
       try clear hcz16_2
       try clear hcz18_0
       try clear hcz18_1
       try clear hcz18_2
       try clear hcz24_0
       try clear hcz24_1
       try clear hcz24_2
       try clear hcz26_0
       try clear hcz26_1
       try clear hcz26_2
       try clear hcz31_0
       try clear hcz31_1
       try clear hcz31_2
       try clear hcz38_0
       try clear hcz38_1
       try clear hcz38_2
       try clear hcz45_0
       try clear hcz45_1
       try clear hcz45_2
       try clear hcz48_0
       try clear hcz48_1
       try clear hcz48_2
       try clear hcz53_0
       try clear hcz53_1
       try clear hcz53_2
       try clear hcz56_0
       try clear hcz56_1
       try clear hcz56_2
       try clear hcz71_0
       try clear hcz71_1
       try clear hcz71_2
       try clear hcz79_0
       try clear hcz79_1
       try clear hcz79_2
       try clear hcz82_0
       try clear hcz82_1
       try clear hcz82_2
       try clear hcz87_0
       try clear hcz87_1
       try clear hcz87_2
       try clear hcz8_0
       try clear hcz8_1
       try clear hcz8_2
       try clear hcz90_0
       try clear hcz90_1
       try clear hcz90_2
       try clear hfz16_0
       try clear hfz16_1
       try clear hfz16_2
       try clear hfz18_0
       try clear hfz18_1
       try clear hfz18_2
       try clear hfz24_0
       try clear hfz24_1
       try clear hfz24_2
       try clear hfz26_0
       try clear hfz26_1
       try clear hfz26_2
       try clear hfz31_0
       try clear hfz31_1
       try clear hfz31_2
       try clear hfz38_0
       try clear hfz38_1
       try clear hfz38_2
       try clear hfz45_0
       try clear hfz45_1
       try clear hfz45_2
       try clear hfz48_0
       try clear hfz48_1
       try clear hfz48_2
       try clear hfz53_0
       try clear hfz53_1
       try clear hfz53_2
       try clear hfz56_0
       try clear hfz56_1
       try clear hfz56_2
       try clear hfz71_0
       try clear hfz71_1
       try clear hfz71_2
       try clear hfz79_0
       try clear hfz79_1
       try clear hfz79_2
       try clear hfz82_0
       try clear hfz82_1
       try clear hfz82_2
       try clear hfz87_0
       try clear hfz87_1
       try clear hfz87_2
       try clear hfz8_0
       try clear hfz8_1
       try clear hfz8_2
       try clear hfz90_0
       try clear hfz90_1
       try clear hfz90_2
       try clear p2
       obtain ⟨kq, x73_62, rfl, HA, HJ62, HO_820002, HO_826002, HO_833002, BK806, BK819, BK825, BK832, HB⟩ := hcut
       have hl826002_62 := (Kd.R_reads' HO_826002.out).1
       rw [hl826002_62] at HO_826002
       (try simp only [hl826002_62])
       (try simp only [hl826002_62] at BK806)
       (try simp only [hl826002_62] at BK819)
       (try simp only [hl826002_62] at BK825)
       (try simp only [hl826002_62] at BK832)
       (try simp only [hl826002_62] at HO_820002)
       (try simp only [hl826002_62] at HO_833002)
       cases kq with
       | zero => exact absurd HA.out (by simp [laws_FnExactPaintPair.j1])
       | succ kj62 =>
        have H := HA.out
        clear HA
        simp only [laws_FnExactPaintPair.j1] at H
        by_cases c92 : x73_62 = true
        ·subst c92
         have H1 : (some false) = some r := by rw [if_pos rfl] at H; exact H
         clear H
         have H := H1
         clear H1
         obtain rfl := Option.some.inj H
         go_wp2
         go_ret
         exact ⟨by first | rfl | (simp [errW_none, errW_some] <;> rfl) | (simp [*, errW_none, errW_some] <;> rfl), by repeat (first | (with_reducible first | exact HB.out | apply below_alloc | apply pw_below_drewN | apply below_drew1 | refine below_set ?_ GE806.out | refine below_set ?_ GE819.out | refine below_set ?_ GE825.out | refine below_set ?_ GE832.out) | exact HB.out)⟩
        ·replace c92 := Bool.eq_false_iff.mpr c92
         subst c92
         have H1 : ((laws_markPainting.f kj62 t826 t827 t828 1).bind fun bt843 => ((laws_heldPainting.f kj62 t826 t827 bt843.2 1).bind fun t845 => (if t845 < 0 then (some false) else (if t845 = bt843.1 then ((laws_toPainting.f kj62 a0_0 a0_1 l0_2).bind fun bt846 => ((impl_PaintPair.f kj62 bt846.1 bt846.2.1 bt846.2.2 a1 a2 a3).bind fun bt851 => ((laws_eqPainting.f kj62 bt851.1 bt851.2.1 bt851.2.2.1 t813 t814 t815).bind fun t858 => (if t858 = true then (laws_FnExactPaintPair.j2 kj62 bt843.1 (bt851.2.2.2 != t818) t826 t827 bt843.2) else (laws_FnExactPaintPair.j2 kj62 bt843.1 true t826 t827 bt843.2))))) else (some false))))) = some r := by rw [if_neg (show ¬ (false = true) by decide)] at H; exact H
         clear H
         have H := H1
         clear H1
         replace H := Option.bind_eq_some_iff.mp H
         obtain ⟨⟨t843, t844⟩, A930, H⟩ := H
         replace H : ((laws_heldPainting.f kj62 t826 t827 t844 1).bind fun t845 => (if t845 < 0 then (some false) else (if t845 = t843 then ((laws_toPainting.f kj62 a0_0 a0_1 l0_2).bind fun bt846 => ((impl_PaintPair.f kj62 bt846.1 bt846.2.1 bt846.2.2 a1 a2 a3).bind fun bt851 => ((laws_eqPainting.f kj62 bt851.1 bt851.2.1 bt851.2.2.1 t813 t814 t815).bind fun t858 => (if t858 = true then (laws_FnExactPaintPair.j2 kj62 t843 (bt851.2.2.2 != t818) t826 t827 t844) else (laws_FnExactPaintPair.j2 kj62 t843 true t826 t827 t844))))) else (some false)))) = some r := H
         have A93 := Aside0.mk A930
         clear A930
         replace H := Option.bind_eq_some_iff.mp H
         obtain ⟨t845, A940, H⟩ := H
         replace H : (if t845 < 0 then (some false) else (if t845 = t843 then ((laws_toPainting.f kj62 a0_0 a0_1 l0_2).bind fun bt846 => ((impl_PaintPair.f kj62 bt846.1 bt846.2.1 bt846.2.2 a1 a2 a3).bind fun bt851 => ((laws_eqPainting.f kj62 bt851.1 bt851.2.1 bt851.2.2.1 t813 t814 t815).bind fun t858 => (if t858 = true then (laws_FnExactPaintPair.j2 kj62 t843 (bt851.2.2.2 != t818) t826 t827 t844) else (laws_FnExactPaintPair.j2 kj62 t843 true t826 t827 t844))))) else (some false))) = some r := H
         have A94 := Aside0.mk A940
         clear A940
         by_cases c95 : t845 < 0
         ·rw [if_pos c95] at H
          have c95b0 : decide (t845 < 0) = true := decide_eq_true c95
          clear c95
          obtain rfl := Option.some.inj H
          have hnb96 := NB832_806.out
          have hnc96 := NB806_832.out
          have hnb97 := NB832_819.out
          have hnc97 := NB819_832.out
          have hnb98 := NB832_825.out
          have hnc98 := NB825_832.out
          have hcz99_0 : wc.cell? ⟨gb832, 0, none⟩ = some (.int .i64 t826) := (blk_cell BK832.out 0).trans rfl
          have hcz99_1 : wc.cell? ⟨gb832, 1, none⟩ = some (.int .i64 t827) := (blk_cell BK832.out 1).trans rfl
          have hcz99_2 : wc.cell? ⟨gb832, 2, none⟩ = some (.slice Ao39 t828.length co39) := (blk_cell BK832.out 2).trans rfl
          have hfz99_0 := blk_frozen BK832.out 0
          have hfz99_1 := blk_frozen BK832.out 1
          have hfz99_2 := blk_frozen BK832.out 2
          go_wp2_with (first | ((with_reducible refine gate_callee (f := 45) rfl ?_); refine goesL_ (some 76) rfl rfl Try.func45 (by kernel_rfl) rfl #[.agg #[.int .i64 t826, .int .i64 t827, .slice Ao39 t828.length co39], .int .i64 1] rfl (by (try simp only [List.map_toArray, List.map_cons, List.map_nil]); first | done | rfl | (simp only [List.length_drop, List.length_take]; rfl)) ?_; (with_reducible refine (laws_markPainting.calls kj62 t826 t827 (fun k_ => some k_ = (.slice Ao39 t828.length co39 : Value).ownBlock) (.slice Ao39 t828.length co39) t828 1 t843 t844 w _ ?side1 ?side2 A93.out).mono ?_); (case side1 => repeat (first | (with_reducible first | exact HB.out | apply below_alloc | apply pw_below_drewN | apply below_drew1 | refine below_set ?_ GE806.out | refine below_set ?_ GE819.out | refine below_set ?_ GE825.out | refine below_set ?_ GE832.out) | exact HB.out)); (case side2 => exact Kd.R_tight rfl HO_833002.out); rintro e w100 ⟨rfl, hy0, hb, hkp⟩; refine ⟨_, rfl, ?_⟩; have n0_ := Aside0.mk (Kd.R_mono (ok' := fun k_ => some k_ ≠ (.slice Ao32 t841.length co32 : Value).ownBlock ∧ some k_ ≠ (.slice Ao39 t828.length co39 : Value).ownBlock) (Kd.R_keptB (HO_820002.out) hkp (fun k_ hk_ hs_ => (hk_.2) hs_)) (fun k_ hk_ => ⟨hk_.1.1, hk_.1.2⟩)); have n1_ := Aside0.mk (Kd.R_mono (ok' := fun k_ => some k_ ≠ (.slice Ao25 t815.length co25 : Value).ownBlock ∧ some k_ ≠ (.slice Ao39 t828.length co39 : Value).ownBlock) (Kd.R_keptB (HO_826002.out) hkp (fun k_ hk_ hs_ => (hk_.2) hs_)) (fun k_ hk_ => ⟨hk_.1.1, hk_.1.2⟩)); have n2_ := Aside0.mk (Kd.R_reok rfl hy0 (fun k_ e_ => HO_833002.out.1 k_ e_)); have n3_ := Aside0.mk (blk_kept (by (with_reducible repeat (first | refine blk_drewN ?_ _ | refine blk_drew ?_ | refine blk_alloc ?_ _)); exact BK806.out) hkp (fun hs_ => (fun e_ => (Kd.R_ne HO_833002.out BK806.out (by decide)) e_) hs_)); have n4_ := Aside0.mk (blk_kept (by (with_reducible repeat (first | refine blk_drewN ?_ _ | refine blk_drew ?_ | refine blk_alloc ?_ _)); exact BK819.out) hkp (fun hs_ => (fun e_ => (Kd.R_ne HO_833002.out BK819.out (by decide)) e_) hs_)); have n5_ := Aside0.mk (blk_kept (by (with_reducible repeat (first | refine blk_drewN ?_ _ | refine blk_drew ?_ | refine blk_alloc ?_ _)); exact BK825.out) hkp (fun hs_ => (fun e_ => (Kd.R_ne HO_833002.out BK825.out (by decide)) e_) hs_)); have n6_ := Aside0.mk (blk_kept (by (with_reducible repeat (first | refine blk_drewN ?_ _ | refine blk_drew ?_ | refine blk_alloc ?_ _)); exact BK832.out) hkp (fun hs_ => (fun e_ => (Kd.R_ne HO_833002.out BK832.out (by decide)) e_) hs_)); have n7_ := Aside0.mk (hb); clear HO_820002; clear HO_826002; clear HO_833002; clear BK806; clear BK819; clear BK825; clear BK832; clear HB; have HO_820002 := n0_; have HO_826002 := n1_; have HO_833002 := n2_; have BK806 := n3_; have BK819 := n4_; have BK825 := n5_; have BK832 := n6_; have HB := n7_; clear n0_ n1_ n2_ n3_ n4_ n5_ n6_ n7_; (try clear hb); (try clear hkp); (try clear hy0); have hcz101_0 : w100.cell? ⟨gb832, 0, none⟩ = some (.int .i64 t826) := (blk_cell BK832.out 0).trans rfl; have hcz101_1 : w100.cell? ⟨gb832, 1, none⟩ = some (.int .i64 t827) := (blk_cell BK832.out 1).trans rfl; have hcz101_2 : w100.cell? ⟨gb832, 2, none⟩ = some (.slice Ao39 t828.length co39) := (blk_cell BK832.out 2).trans rfl; have hfz101_0 := blk_frozen BK832.out 0; have hfz101_1 := blk_frozen BK832.out 1; have hfz101_2 := blk_frozen BK832.out 2) | ((with_reducible refine gate_callee (f := 46) rfl ?_); refine goesL_ (some 79) rfl rfl Try.func46 (by kernel_rfl) rfl #[.agg #[.int .i64 t826, .int .i64 t827, .slice Ao39 t844.length co39], .int .i64 1] rfl (by (try simp only [List.map_toArray, List.map_cons, List.map_nil]); first | done | (rw [show t844.length = t828.length from (Kd.R_reads' HO_833002.out).1.symm] <;> rfl) | rfl | (simp only [List.length_drop, List.length_take]; rfl)) ?_; (with_reducible refine (laws_heldPainting.calls kj62 t826 t827 _ _ t844 1 t845 _ ?side1 ?side2 A94.out).mono ?_); (case side1 => repeat (first | exact (Kd.R_reads' HO_833002.out).2.2 | (with_reducible refine Kd.C_alloc ?_ _) | (with_reducible refine Kd.C_drewN ?_ _) | (with_reducible refine Kd.C_drew ?_))); (case side2 => rw [show t844.length = t828.length from (Kd.R_reads' HO_833002.out).1.symm]; exact (Kd.R_reads' HO_833002.out).2.1); rintro e w102 ⟨rfl, hb⟩; refine ⟨_, rfl, ?_⟩; have n0_ := Aside0.mk (Kd.R_below (by (with_reducible repeat (first | apply Kd.R_alloc | apply Kd.R_drewN | apply Kd.R_drew)); exact HO_820002.out) hb); have n1_ := Aside0.mk (Kd.R_below (by (with_reducible repeat (first | apply Kd.R_alloc | apply Kd.R_drewN | apply Kd.R_drew)); exact HO_826002.out) hb); have n2_ := Aside0.mk (Kd.R_below (by (with_reducible repeat (first | apply Kd.R_alloc | apply Kd.R_drewN | apply Kd.R_drew)); exact HO_833002.out) hb); have n3_ := Aside0.mk (blk_below (g := gb806) (o := .cells #[.int .i64 a0_0, .int .i64 a0_1, .slice A0_2 l0_2.length c0_2] 57 (0, 0)) (by (with_reducible repeat (first | refine blk_drewN ?_ _ | refine blk_drew ?_ | refine blk_alloc ?_ _)); exact BK806.out) hb); have n4_ := Aside0.mk (blk_below (g := gb819) (o := .cells #[.int .i64 t813, .int .i64 t814, .slice Ao25 t815.length co25] 59 (0, 0)) (by (with_reducible repeat (first | refine blk_drewN ?_ _ | refine blk_drew ?_ | refine blk_alloc ?_ _)); exact BK819.out) hb); have n5_ := Aside0.mk (blk_below (g := gb825) (o := .cells #[.int .i64 t820, .int .i64 t821, .slice Ao32 t841.length co32] 59 (0, 0)) (by (with_reducible repeat (first | refine blk_drewN ?_ _ | refine blk_drew ?_ | refine blk_alloc ?_ _)); exact BK825.out) hb); have n6_ := Aside0.mk (blk_below (g := gb832) (o := .cells #[.int .i64 t826, .int .i64 t827, .slice Ao39 t828.length co39] 59 (0, 0)) (by (with_reducible repeat (first | refine blk_drewN ?_ _ | refine blk_drew ?_ | refine blk_alloc ?_ _)); exact BK832.out) hb); have n7_ := Aside0.mk (below_step (by repeat (first | (with_reducible first | exact HB.out | apply below_alloc | apply pw_below_drewN | apply below_drew1 | refine below_set ?_ GE806.out | refine below_set ?_ GE819.out | refine below_set ?_ GE825.out | refine below_set ?_ GE832.out) | exact HB.out)) hb); clear HO_820002; clear HO_826002; clear HO_833002; clear BK806; clear BK819; clear BK825; clear BK832; clear HB; have HO_820002 := n0_; have HO_826002 := n1_; have HO_833002 := n2_; have BK806 := n3_; have BK819 := n4_; have BK825 := n5_; have BK832 := n6_; have HB := n7_; clear n0_ n1_ n2_ n3_ n4_ n5_ n6_ n7_; (try clear hb); (try clear hb2); (try clear hk); (try clear hi)))
          go_ret
          exact ⟨by first | rfl | (simp [errW_none, errW_some] <;> rfl) | (simp [*, errW_none, errW_some] <;> rfl), by repeat (first | (with_reducible first | exact HB.out | apply below_alloc | apply pw_below_drewN | apply below_drew1 | refine below_set ?_ GE806.out | refine below_set ?_ GE819.out | refine below_set ?_ GE825.out | refine below_set ?_ GE832.out) | exact HB.out)⟩
         ·rw [if_neg c95] at H
          have c95b0 : decide (t845 < 0) = false := decide_eq_false c95
          clear c95
          by_cases c103 : t845 = t843
          ·rw [if_pos c103] at H
           have c103b0 : (t845 == t843) = true := beq_iff_eq.mpr c103
           have c103b1 : (t845 != t843) = false := bne_eq_false_iff_eq.mpr c103
           clear c103
           replace H := Option.bind_eq_some_iff.mp H
           obtain ⟨⟨t846, t847, t848⟩, A1040, H⟩ := H
           replace H : ((impl_PaintPair.f kj62 t846 t847 t848 a1 a2 a3).bind fun bt851 => ((laws_eqPainting.f kj62 bt851.1 bt851.2.1 bt851.2.2.1 t813 t814 t815).bind fun t858 => (if t858 = true then (laws_FnExactPaintPair.j2 kj62 t843 (bt851.2.2.2 != t818) t826 t827 t844) else (laws_FnExactPaintPair.j2 kj62 t843 true t826 t827 t844)))) = some r := H
           have A104 := Aside0.mk A1040
           clear A1040
           replace H := Option.bind_eq_some_iff.mp H
           obtain ⟨⟨t851, t852, t853, t856⟩, A1050, H⟩ := H
           replace H : ((laws_eqPainting.f kj62 t851 t852 t853 t813 t814 t815).bind fun t858 => (if t858 = true then (laws_FnExactPaintPair.j2 kj62 t843 (t856 != t818) t826 t827 t844) else (laws_FnExactPaintPair.j2 kj62 t843 true t826 t827 t844))) = some r := H
           have A105 := Aside0.mk A1050
           clear A1050
           have HC106 := Aside0.mk H
           clear H
           have hnb107 := NB832_806.out
           have hnc107 := NB806_832.out
           have hnb108 := NB832_819.out
           have hnc108 := NB819_832.out
           have hnb109 := NB832_825.out
           have hnc109 := NB825_832.out
           have hcz110_0 : wc.cell? ⟨gb832, 0, none⟩ = some (.int .i64 t826) := (blk_cell BK832.out 0).trans rfl
           have hcz110_1 : wc.cell? ⟨gb832, 1, none⟩ = some (.int .i64 t827) := (blk_cell BK832.out 1).trans rfl
           have hcz110_2 : wc.cell? ⟨gb832, 2, none⟩ = some (.slice Ao39 t828.length co39) := (blk_cell BK832.out 2).trans rfl
           have hfz110_0 := blk_frozen BK832.out 0
           have hfz110_1 := blk_frozen BK832.out 1
           have hfz110_2 := blk_frozen BK832.out 2
           go_upto_region 25 with (first | ((with_reducible refine gate_callee (f := 45) rfl ?_); refine goesL_ (some 76) rfl rfl Try.func45 (by kernel_rfl) rfl #[.agg #[.int .i64 t826, .int .i64 t827, .slice Ao39 t828.length co39], .int .i64 1] rfl (by (try simp only [List.map_toArray, List.map_cons, List.map_nil]); first | done | rfl | (simp only [List.length_drop, List.length_take]; rfl)) ?_; (with_reducible refine (laws_markPainting.calls kj62 t826 t827 (fun k_ => some k_ = (.slice Ao39 t828.length co39 : Value).ownBlock) (.slice Ao39 t828.length co39) t828 1 t843 t844 w _ ?side1 ?side2 A93.out).mono ?_); (case side1 => repeat (first | (with_reducible first | exact HB.out | apply below_alloc | apply pw_below_drewN | apply below_drew1 | refine below_set ?_ GE806.out | refine below_set ?_ GE819.out | refine below_set ?_ GE825.out | refine below_set ?_ GE832.out) | exact HB.out)); (case side2 => exact Kd.R_tight rfl HO_833002.out); rintro e w111 ⟨rfl, hy0, hb, hkp⟩; refine ⟨_, rfl, ?_⟩; have n0_ := Aside0.mk (Kd.R_mono (ok' := fun k_ => some k_ ≠ (.slice Ao32 t841.length co32 : Value).ownBlock ∧ some k_ ≠ (.slice Ao39 t828.length co39 : Value).ownBlock) (Kd.R_keptB (HO_820002.out) hkp (fun k_ hk_ hs_ => (hk_.2) hs_)) (fun k_ hk_ => ⟨hk_.1.1, hk_.1.2⟩)); have n1_ := Aside0.mk (Kd.R_mono (ok' := fun k_ => some k_ ≠ (.slice Ao25 t815.length co25 : Value).ownBlock ∧ some k_ ≠ (.slice Ao39 t828.length co39 : Value).ownBlock) (Kd.R_keptB (HO_826002.out) hkp (fun k_ hk_ hs_ => (hk_.2) hs_)) (fun k_ hk_ => ⟨hk_.1.1, hk_.1.2⟩)); have n2_ := Aside0.mk (Kd.R_reok rfl hy0 (fun k_ e_ => HO_833002.out.1 k_ e_)); have n3_ := Aside0.mk (blk_kept (by (with_reducible repeat (first | refine blk_drewN ?_ _ | refine blk_drew ?_ | refine blk_alloc ?_ _)); exact BK806.out) hkp (fun hs_ => (fun e_ => (Kd.R_ne HO_833002.out BK806.out (by decide)) e_) hs_)); have n4_ := Aside0.mk (blk_kept (by (with_reducible repeat (first | refine blk_drewN ?_ _ | refine blk_drew ?_ | refine blk_alloc ?_ _)); exact BK819.out) hkp (fun hs_ => (fun e_ => (Kd.R_ne HO_833002.out BK819.out (by decide)) e_) hs_)); have n5_ := Aside0.mk (blk_kept (by (with_reducible repeat (first | refine blk_drewN ?_ _ | refine blk_drew ?_ | refine blk_alloc ?_ _)); exact BK825.out) hkp (fun hs_ => (fun e_ => (Kd.R_ne HO_833002.out BK825.out (by decide)) e_) hs_)); have n6_ := Aside0.mk (blk_kept (by (with_reducible repeat (first | refine blk_drewN ?_ _ | refine blk_drew ?_ | refine blk_alloc ?_ _)); exact BK832.out) hkp (fun hs_ => (fun e_ => (Kd.R_ne HO_833002.out BK832.out (by decide)) e_) hs_)); have n7_ := Aside0.mk (hb); clear HO_820002; clear HO_826002; clear HO_833002; clear BK806; clear BK819; clear BK825; clear BK832; clear HB; have HO_820002 := n0_; have HO_826002 := n1_; have HO_833002 := n2_; have BK806 := n3_; have BK819 := n4_; have BK825 := n5_; have BK832 := n6_; have HB := n7_; clear n0_ n1_ n2_ n3_ n4_ n5_ n6_ n7_; (try clear hb); (try clear hkp); (try clear hy0); have hcz112_0 : w111.cell? ⟨gb832, 0, none⟩ = some (.int .i64 t826) := (blk_cell BK832.out 0).trans rfl; have hcz112_1 : w111.cell? ⟨gb832, 1, none⟩ = some (.int .i64 t827) := (blk_cell BK832.out 1).trans rfl; have hcz112_2 : w111.cell? ⟨gb832, 2, none⟩ = some (.slice Ao39 t828.length co39) := (blk_cell BK832.out 2).trans rfl; have hfz112_0 := blk_frozen BK832.out 0; have hfz112_1 := blk_frozen BK832.out 1; have hfz112_2 := blk_frozen BK832.out 2) | ((with_reducible refine gate_callee (f := 46) rfl ?_); refine goesL_ (some 79) rfl rfl Try.func46 (by kernel_rfl) rfl #[.agg #[.int .i64 t826, .int .i64 t827, .slice Ao39 t844.length co39], .int .i64 1] rfl (by (try simp only [List.map_toArray, List.map_cons, List.map_nil]); first | done | (rw [show t844.length = t828.length from (Kd.R_reads' HO_833002.out).1.symm] <;> rfl) | rfl | (simp only [List.length_drop, List.length_take]; rfl)) ?_; (with_reducible refine (laws_heldPainting.calls kj62 t826 t827 _ _ t844 1 t845 _ ?side1 ?side2 A94.out).mono ?_); (case side1 => repeat (first | exact (Kd.R_reads' HO_833002.out).2.2 | (with_reducible refine Kd.C_alloc ?_ _) | (with_reducible refine Kd.C_drewN ?_ _) | (with_reducible refine Kd.C_drew ?_))); (case side2 => rw [show t844.length = t828.length from (Kd.R_reads' HO_833002.out).1.symm]; exact (Kd.R_reads' HO_833002.out).2.1); rintro e w113 ⟨rfl, hb⟩; refine ⟨_, rfl, ?_⟩; have n0_ := Aside0.mk (Kd.R_below (by (with_reducible repeat (first | apply Kd.R_alloc | apply Kd.R_drewN | apply Kd.R_drew)); exact HO_820002.out) hb); have n1_ := Aside0.mk (Kd.R_below (by (with_reducible repeat (first | apply Kd.R_alloc | apply Kd.R_drewN | apply Kd.R_drew)); exact HO_826002.out) hb); have n2_ := Aside0.mk (Kd.R_below (by (with_reducible repeat (first | apply Kd.R_alloc | apply Kd.R_drewN | apply Kd.R_drew)); exact HO_833002.out) hb); have n3_ := Aside0.mk (blk_below (g := gb806) (o := .cells #[.int .i64 a0_0, .int .i64 a0_1, .slice A0_2 l0_2.length c0_2] 57 (0, 0)) (by (with_reducible repeat (first | refine blk_drewN ?_ _ | refine blk_drew ?_ | refine blk_alloc ?_ _)); exact BK806.out) hb); have n4_ := Aside0.mk (blk_below (g := gb819) (o := .cells #[.int .i64 t813, .int .i64 t814, .slice Ao25 t815.length co25] 59 (0, 0)) (by (with_reducible repeat (first | refine blk_drewN ?_ _ | refine blk_drew ?_ | refine blk_alloc ?_ _)); exact BK819.out) hb); have n5_ := Aside0.mk (blk_below (g := gb825) (o := .cells #[.int .i64 t820, .int .i64 t821, .slice Ao32 t841.length co32] 59 (0, 0)) (by (with_reducible repeat (first | refine blk_drewN ?_ _ | refine blk_drew ?_ | refine blk_alloc ?_ _)); exact BK825.out) hb); have n6_ := Aside0.mk (blk_below (g := gb832) (o := .cells #[.int .i64 t826, .int .i64 t827, .slice Ao39 t828.length co39] 59 (0, 0)) (by (with_reducible repeat (first | refine blk_drewN ?_ _ | refine blk_drew ?_ | refine blk_alloc ?_ _)); exact BK832.out) hb); have n7_ := Aside0.mk (below_step (by repeat (first | (with_reducible first | exact HB.out | apply below_alloc | apply pw_below_drewN | apply below_drew1 | refine below_set ?_ GE806.out | refine below_set ?_ GE819.out | refine below_set ?_ GE825.out | refine below_set ?_ GE832.out) | exact HB.out)) hb); clear HO_820002; clear HO_826002; clear HO_833002; clear BK806; clear BK819; clear BK825; clear BK832; clear HB; have HO_820002 := n0_; have HO_826002 := n1_; have HO_833002 := n2_; have BK806 := n3_; have BK819 := n4_; have BK825 := n5_; have BK832 := n6_; have HB := n7_; clear n0_ n1_ n2_ n3_ n4_ n5_ n6_ n7_; (try clear hb); (try clear hb2); (try clear hk); (try clear hi); have hnb114 := NB806_819.out; have hnc114 := NB819_806.out; have hnb115 := NB806_825.out; have hnc115 := NB825_806.out; have hcz116_0 : w113.cell? ⟨gb806, 0, none⟩ = some (.int .i64 a0_0) := (blk_cell BK806.out 0).trans rfl; have hcz116_1 : w113.cell? ⟨gb806, 1, none⟩ = some (.int .i64 a0_1) := (blk_cell BK806.out 1).trans rfl; have hcz116_2 : w113.cell? ⟨gb806, 2, none⟩ = some (.slice A0_2 l0_2.length c0_2) := (blk_cell BK806.out 2).trans rfl; have hfz116_0 := blk_frozen BK806.out 0; have hfz116_1 := blk_frozen BK806.out 1; have hfz116_2 := blk_frozen BK806.out 2) | ((with_reducible refine gate_callee (f := 42) rfl ?_); refine goesL_ (some 87) rfl rfl Try.func42 (by kernel_rfl) rfl #[.agg #[.int .i64 a0_0, .int .i64 a0_1, .slice A0_2 l0_2.length c0_2]] rfl (by (try simp only [List.map_toArray, List.map_cons, List.map_nil]); first | done | rfl | (simp only [List.length_drop, List.length_take]; rfl)) ?_; (with_reducible refine (laws_toPainting.calls kj62 a0_0 a0_1 _ _ l0_2 t846 t847 t848 _ ?side1 ?side2 A104.out).mono ?_); (case side1 => repeat (first | exact (Kd.C_below HR0_2.out HB.out) | (with_reducible refine Kd.C_alloc ?_ _) | (with_reducible refine Kd.C_drewN ?_ _) | (with_reducible refine Kd.C_drew ?_))); (case side2 => exact HC0_2.out); rintro e w117 ⟨v849, rfl, ho0, hb⟩; refine ⟨_, rfl, ?_⟩; have n0_ := Aside0.mk (Kd.R_elder' (by (with_reducible repeat (first | apply Kd.R_alloc | apply Kd.R_drewN | apply Kd.R_drew)); exact HO_820002.out) (Kd.R_base ho0) hb); have n1_ := Aside0.mk (Kd.R_elder' (by (with_reducible repeat (first | apply Kd.R_alloc | apply Kd.R_drewN | apply Kd.R_drew)); exact HO_826002.out) (Kd.R_base ho0) hb); have n2_ := Aside0.mk (Kd.R_elder' (by (with_reducible repeat (first | apply Kd.R_alloc | apply Kd.R_drewN | apply Kd.R_drew)); exact HO_833002.out) (Kd.R_base ho0) hb); have n3_ := Aside0.mk (Kd.R_lower (Kd.R_new' (Kd.R_new' (Kd.R_new' ho0 (Kd.R_lt (by (with_reducible repeat (first | apply Kd.R_alloc | apply Kd.R_drewN | apply Kd.R_drew)); exact HO_820002.out))) (Kd.R_lt (by (with_reducible repeat (first | apply Kd.R_alloc | apply Kd.R_drewN | apply Kd.R_drew)); exact HO_826002.out))) (Kd.R_lt (by (with_reducible repeat (first | apply Kd.R_alloc | apply Kd.R_drewN | apply Kd.R_drew)); exact HO_833002.out))) (below_size (by repeat (first | (with_reducible first | exact HB.out | apply below_alloc | apply pw_below_drewN | apply below_drew1 | refine below_set ?_ GE806.out | refine below_set ?_ GE819.out | refine below_set ?_ GE825.out | refine below_set ?_ GE832.out) | exact HB.out)))); have n4_ := Aside0.mk (blk_below (g := gb806) (o := .cells #[.int .i64 a0_0, .int .i64 a0_1, .slice A0_2 l0_2.length c0_2] 57 (0, 0)) (by (with_reducible repeat (first | refine blk_drewN ?_ _ | refine blk_drew ?_ | refine blk_alloc ?_ _)); exact BK806.out) hb); have n5_ := Aside0.mk (blk_below (g := gb819) (o := .cells #[.int .i64 t813, .int .i64 t814, .slice Ao25 t815.length co25] 59 (0, 0)) (by (with_reducible repeat (first | refine blk_drewN ?_ _ | refine blk_drew ?_ | refine blk_alloc ?_ _)); exact BK819.out) hb); have n6_ := Aside0.mk (blk_below (g := gb825) (o := .cells #[.int .i64 t820, .int .i64 t821, .slice Ao32 t841.length co32] 59 (0, 0)) (by (with_reducible repeat (first | refine blk_drewN ?_ _ | refine blk_drew ?_ | refine blk_alloc ?_ _)); exact BK825.out) hb); have n7_ := Aside0.mk (blk_below (g := gb832) (o := .cells #[.int .i64 t826, .int .i64 t827, .slice Ao39 t828.length co39] 59 (0, 0)) (by (with_reducible repeat (first | refine blk_drewN ?_ _ | refine blk_drew ?_ | refine blk_alloc ?_ _)); exact BK832.out) hb); have n8_ := Aside0.mk (below_step (by repeat (first | (with_reducible first | exact HB.out | apply below_alloc | apply pw_below_drewN | apply below_drew1 | refine below_set ?_ GE806.out | refine below_set ?_ GE819.out | refine below_set ?_ GE825.out | refine below_set ?_ GE832.out) | exact HB.out)) hb); clear HO_820002; clear HO_826002; clear HO_833002; clear BK806; clear BK819; clear BK825; clear BK832; clear HB; have HO_820002 := n0_; have HO_826002 := n1_; have HO_833002 := n2_; have HO850 := n3_; have BK806 := n4_; have BK819 := n5_; have BK825 := n6_; have BK832 := n7_; have HB := n8_; clear n0_ n1_ n2_ n3_ n4_ n5_ n6_ n7_ n8_; (try clear hb); (try clear hb2); (try clear hk); (try clear hi); (try clear ho0); obtain ⟨Ao118, co118, eo118⟩ := Kd.R_slice HO850.out; subst eo118) | ((with_reducible refine gate_callee (f := 48) rfl ?_); refine goesL_ (some 91) rfl rfl Try.func48 (by kernel_rfl) rfl #[.agg #[.int .i64 t846, .int .i64 t847, .slice Ao118 t848.length co118], .int .i64 a1, .int .i64 a2, .int .i64 a3] rfl (by (try simp only [List.map_toArray, List.map_cons, List.map_nil]); first | done | rfl | (simp only [List.length_drop, List.length_take]; rfl)) ?_; (with_reducible refine (impl_PaintPair.calls kj62 t846 t847 _ _ t848 a1 a2 a3 t851 t852 t853 t856 _ ?side1 ?side2 A105.out).mono ?_); (case side1 => repeat (first | exact (Kd.R_reads' HO850.out).2.2 | (with_reducible refine Kd.C_alloc ?_ _) | (with_reducible refine Kd.C_drewN ?_ _) | (with_reducible refine Kd.C_drew ?_))); (case side2 => exact (Kd.R_reads' HO850.out).2.1); rintro e w119 ⟨v854, rfl, ho0, hb⟩; refine ⟨_, rfl, ?_⟩; have n0_ := Aside0.mk (Kd.R_elder' (by (with_reducible repeat (first | apply Kd.R_alloc | apply Kd.R_drewN | apply Kd.R_drew)); exact HO_820002.out) (Kd.R_base ho0) hb); have n1_ := Aside0.mk (Kd.R_elder' (by (with_reducible repeat (first | apply Kd.R_alloc | apply Kd.R_drewN | apply Kd.R_drew)); exact HO_826002.out) (Kd.R_base ho0) hb); have n2_ := Aside0.mk (Kd.R_elder' (by (with_reducible repeat (first | apply Kd.R_alloc | apply Kd.R_drewN | apply Kd.R_drew)); exact HO_833002.out) (Kd.R_base ho0) hb); have n3_ := Aside0.mk (Kd.R_elder' (by (with_reducible repeat (first | apply Kd.R_alloc | apply Kd.R_drewN | apply Kd.R_drew)); exact HO850.out) (Kd.R_base ho0) hb); have n4_ := Aside0.mk (Kd.R_lower (Kd.R_new' (Kd.R_new' (Kd.R_new' (Kd.R_new' ho0 (Kd.R_lt (by (with_reducible repeat (first | apply Kd.R_alloc | apply Kd.R_drewN | apply Kd.R_drew)); exact HO_820002.out))) (Kd.R_lt (by (with_reducible repeat (first | apply Kd.R_alloc | apply Kd.R_drewN | apply Kd.R_drew)); exact HO_826002.out))) (Kd.R_lt (by (with_reducible repeat (first | apply Kd.R_alloc | apply Kd.R_drewN | apply Kd.R_drew)); exact HO_833002.out))) (Kd.R_lt (by (with_reducible repeat (first | apply Kd.R_alloc | apply Kd.R_drewN | apply Kd.R_drew)); exact HO850.out))) (below_size (by repeat (first | (with_reducible first | exact HB.out | apply below_alloc | apply pw_below_drewN | apply below_drew1 | refine below_set ?_ GE806.out | refine below_set ?_ GE819.out | refine below_set ?_ GE825.out | refine below_set ?_ GE832.out) | exact HB.out)))); have n5_ := Aside0.mk (blk_below (g := gb806) (o := .cells #[.int .i64 a0_0, .int .i64 a0_1, .slice A0_2 l0_2.length c0_2] 57 (0, 0)) (by (with_reducible repeat (first | refine blk_drewN ?_ _ | refine blk_drew ?_ | refine blk_alloc ?_ _)); exact BK806.out) hb); have n6_ := Aside0.mk (blk_below (g := gb819) (o := .cells #[.int .i64 t813, .int .i64 t814, .slice Ao25 t815.length co25] 59 (0, 0)) (by (with_reducible repeat (first | refine blk_drewN ?_ _ | refine blk_drew ?_ | refine blk_alloc ?_ _)); exact BK819.out) hb); have n7_ := Aside0.mk (blk_below (g := gb825) (o := .cells #[.int .i64 t820, .int .i64 t821, .slice Ao32 t841.length co32] 59 (0, 0)) (by (with_reducible repeat (first | refine blk_drewN ?_ _ | refine blk_drew ?_ | refine blk_alloc ?_ _)); exact BK825.out) hb); have n8_ := Aside0.mk (blk_below (g := gb832) (o := .cells #[.int .i64 t826, .int .i64 t827, .slice Ao39 t828.length co39] 59 (0, 0)) (by (with_reducible repeat (first | refine blk_drewN ?_ _ | refine blk_drew ?_ | refine blk_alloc ?_ _)); exact BK832.out) hb); have n9_ := Aside0.mk (below_step (by repeat (first | (with_reducible first | exact HB.out | apply below_alloc | apply pw_below_drewN | apply below_drew1 | refine below_set ?_ GE806.out | refine below_set ?_ GE819.out | refine below_set ?_ GE825.out | refine below_set ?_ GE832.out) | exact HB.out)) hb); clear HO_820002; clear HO_826002; clear HO_833002; clear HO850; clear BK806; clear BK819; clear BK825; clear BK832; clear HB; have HO_820002 := n0_; have HO_826002 := n1_; have HO_833002 := n2_; have HO850 := n3_; have HO855 := n4_; have BK806 := n5_; have BK819 := n6_; have BK825 := n7_; have BK832 := n8_; have HB := n9_; clear n0_ n1_ n2_ n3_ n4_ n5_ n6_ n7_ n8_ n9_; (try clear hb); (try clear hb2); (try clear hk); (try clear hi); (try clear ho0)) | ((with_reducible refine gate_dst (N := 18) rfl ?_); refine box_event ?hg (N := 18) ?hd (cs := #[.int .i64 0, .int .i64 0, .slice none 0 0]) (t := 59) ?hr ?_; (case hd => rfl); (case hg => rfl); (case hr => first | (go_simp; done) | (go_simp; rfl)); intro gb857 hg w120 hbox hb; have n0_ := Aside0.mk (Kd.R_below (by (with_reducible repeat (first | apply Kd.R_alloc | apply Kd.R_drewN | apply Kd.R_drew)); exact HO_820002.out) hb); have n1_ := Aside0.mk (Kd.R_below (by (with_reducible repeat (first | apply Kd.R_alloc | apply Kd.R_drewN | apply Kd.R_drew)); exact HO_826002.out) hb); have n2_ := Aside0.mk (Kd.R_below (by (with_reducible repeat (first | apply Kd.R_alloc | apply Kd.R_drewN | apply Kd.R_drew)); exact HO_833002.out) hb); have n3_ := Aside0.mk (Kd.R_below (by (with_reducible repeat (first | apply Kd.R_alloc | apply Kd.R_drewN | apply Kd.R_drew)); exact HO850.out) hb); have n4_ := Aside0.mk (Kd.R_below (by (with_reducible repeat (first | apply Kd.R_alloc | apply Kd.R_drewN | apply Kd.R_drew)); exact HO855.out) hb); have n5_ := Aside0.mk (blk_below (g := gb806) (o := .cells #[.int .i64 a0_0, .int .i64 a0_1, .slice A0_2 l0_2.length c0_2] 57 (0, 0)) (by (with_reducible repeat (first | refine blk_drewN ?_ _ | refine blk_drew ?_ | refine blk_alloc ?_ _)); exact BK806.out) hb); have n6_ := Aside0.mk (blk_below (g := gb819) (o := .cells #[.int .i64 t813, .int .i64 t814, .slice Ao25 t815.length co25] 59 (0, 0)) (by (with_reducible repeat (first | refine blk_drewN ?_ _ | refine blk_drew ?_ | refine blk_alloc ?_ _)); exact BK819.out) hb); have n7_ := Aside0.mk (blk_below (g := gb825) (o := .cells #[.int .i64 t820, .int .i64 t821, .slice Ao32 t841.length co32] 59 (0, 0)) (by (with_reducible repeat (first | refine blk_drewN ?_ _ | refine blk_drew ?_ | refine blk_alloc ?_ _)); exact BK825.out) hb); have n8_ := Aside0.mk (blk_below (g := gb832) (o := .cells #[.int .i64 t826, .int .i64 t827, .slice Ao39 t828.length co39] 59 (0, 0)) (by (with_reducible repeat (first | refine blk_drewN ?_ _ | refine blk_drew ?_ | refine blk_alloc ?_ _)); exact BK832.out) hb); have n9_ := Aside0.mk (below_step (by repeat (first | (with_reducible first | exact HB.out | apply below_alloc | apply pw_below_drewN | apply below_drew1 | refine below_set ?_ GE806.out | refine below_set ?_ GE819.out | refine below_set ?_ GE825.out | refine below_set ?_ GE832.out) | exact HB.out)) hb); have n10_ := Aside0.mk (hbox); have n11_ := Aside0.mk ((by rw [hg]; exact (below_size (by repeat (first | (with_reducible first | exact HB.out | apply below_alloc | apply pw_below_drewN | apply below_drew1 | refine below_set ?_ GE806.out | refine below_set ?_ GE819.out | refine below_set ?_ GE825.out | refine below_set ?_ GE832.out) | exact HB.out))) : w.heap.size ≤ gb857)); have n12_ := n11_; have n13_ := Aside0.mk ((by rw [hg]; exact Nat.ne_of_lt (blk_lt (g := gb806) (o := .cells #[.int .i64 a0_0, .int .i64 a0_1, .slice A0_2 l0_2.length c0_2] 57 (0, 0)) (by (with_reducible repeat (first | refine blk_drewN ?_ _ | refine blk_drew ?_ | refine blk_alloc ?_ _)); exact BK806.out)) : gb806 ≠ gb857)); have n14_ := Aside0.mk n13_.out.symm; have n15_ := Aside0.mk ((by rw [hg]; exact Nat.ne_of_lt (blk_lt (g := gb819) (o := .cells #[.int .i64 t813, .int .i64 t814, .slice Ao25 t815.length co25] 59 (0, 0)) (by (with_reducible repeat (first | refine blk_drewN ?_ _ | refine blk_drew ?_ | refine blk_alloc ?_ _)); exact BK819.out)) : gb819 ≠ gb857)); have n16_ := Aside0.mk n15_.out.symm; have n17_ := Aside0.mk ((by rw [hg]; exact Nat.ne_of_lt (blk_lt (g := gb825) (o := .cells #[.int .i64 t820, .int .i64 t821, .slice Ao32 t841.length co32] 59 (0, 0)) (by (with_reducible repeat (first | refine blk_drewN ?_ _ | refine blk_drew ?_ | refine blk_alloc ?_ _)); exact BK825.out)) : gb825 ≠ gb857)); have n18_ := Aside0.mk n17_.out.symm; have n19_ := Aside0.mk ((by rw [hg]; exact Nat.ne_of_lt (blk_lt (g := gb832) (o := .cells #[.int .i64 t826, .int .i64 t827, .slice Ao39 t828.length co39] 59 (0, 0)) (by (with_reducible repeat (first | refine blk_drewN ?_ _ | refine blk_drew ?_ | refine blk_alloc ?_ _)); exact BK832.out)) : gb832 ≠ gb857)); have n20_ := Aside0.mk n19_.out.symm; clear HO_820002; clear HO_826002; clear HO_833002; clear HO850; clear HO855; clear BK806; clear BK819; clear BK825; clear BK832; clear HB; have HO_820002 := n0_; have HO_826002 := n1_; have HO_833002 := n2_; have HO850 := n3_; have HO855 := n4_; have BK806 := n5_; have BK819 := n6_; have BK825 := n7_; have BK832 := n8_; have HB := n9_; have BK857 := n10_; have GW857 := n11_; have GE857 := n12_; have NB806_857 := n13_; have NB857_806 := n14_; have NB819_857 := n15_; have NB857_819 := n16_; have NB825_857 := n17_; have NB857_825 := n18_; have NB832_857 := n19_; have NB857_832 := n20_; clear n0_ n1_ n2_ n3_ n4_ n5_ n6_ n7_ n8_ n9_ n10_ n11_ n12_ n13_ n14_ n15_ n16_ n17_ n18_ n19_ n20_; clear hb hbox hg; have hnb121 := NB857_806.out; have hnc121 := NB806_857.out; have hnb122 := NB857_819.out; have hnc122 := NB819_857.out; have hnb123 := NB857_825.out; have hnc123 := NB825_857.out; have hnb124 := NB857_832.out; have hnc124 := NB832_857.out; have hcz125_0 : w120.cell? ⟨gb857, 0, none⟩ = some (.int .i64 0) := (blk_cell BK857.out 0).trans rfl; have hcz125_1 : w120.cell? ⟨gb857, 1, none⟩ = some (.int .i64 0) := (blk_cell BK857.out 1).trans rfl; have hcz125_2 : w120.cell? ⟨gb857, 2, none⟩ = some (.slice none 0 0) := (blk_cell BK857.out 2).trans rfl; have hfz125_0 := blk_frozen BK857.out 0; have hfz125_1 := blk_frozen BK857.out 1; have hfz125_2 := blk_frozen BK857.out 2; obtain ⟨Ao126, co126, eo126⟩ := Kd.R_slice HO855.out; subst eo126))
           (try simp only [Act.put, List.setIfInBounds_toArray, List.set_cons_zero, List.set_cons_succ])
           go_cut [102] (fun v102 wc => ∃ (kq : Nat) (x102_105 : Bool), v102 = .bool x102_105 ∧ Aside0 (laws_FnExactPaintPair.j2 kq t843 x102_105 t826 t827 t844 = some r) ∧ Aside0 (kq ≤ kj62) ∧ Aside0 (Kd.R (Kd.int .i64) 3 wc w.heap.size (fun k_ => some k_ ≠ ((.slice Ao32 t841.length co32) : Value).ownBlock ∧ some k_ ≠ ((.slice Ao39 t828.length co39) : Value).ownBlock ∧ some k_ ≠ ((.slice Ao126 t853.length co126) : Value).ownBlock) (.slice Ao25 t815.length co25) t815) ∧ Aside0 (Kd.R (Kd.int .i64) 3 wc w.heap.size (fun k_ => some k_ ≠ ((.slice Ao25 t815.length co25) : Value).ownBlock ∧ some k_ ≠ ((.slice Ao39 t828.length co39) : Value).ownBlock ∧ some k_ ≠ ((.slice Ao126 t853.length co126) : Value).ownBlock) (.slice Ao32 t841.length co32) t841) ∧ Aside0 (Kd.R (Kd.int .i64) 3 wc w.heap.size (fun k_ => some k_ ≠ ((.slice Ao25 t815.length co25) : Value).ownBlock ∧ some k_ ≠ ((.slice Ao32 t841.length co32) : Value).ownBlock ∧ some k_ ≠ ((.slice Ao126 t853.length co126) : Value).ownBlock) (.slice Ao39 t828.length co39) t844) ∧ Aside0 (Kd.R (Kd.int .i64) 3 wc w.heap.size (fun k_ => some k_ ≠ ((.slice Ao25 t815.length co25) : Value).ownBlock ∧ some k_ ≠ ((.slice Ao32 t841.length co32) : Value).ownBlock ∧ some k_ ≠ ((.slice Ao39 t828.length co39) : Value).ownBlock) (.slice Ao126 t853.length co126) t853) ∧ Aside0 (wc.heap[gb806]? = some (.cells #[.int .i64 a0_0, .int .i64 a0_1, (.slice A0_2 l0_2.length c0_2)] 57 (0, 0))) ∧ Aside0 (wc.heap[gb819]? = some (.cells #[.int .i64 t813, .int .i64 t814, (.slice Ao25 t815.length co25)] 59 (0, 0))) ∧ Aside0 (wc.heap[gb825]? = some (.cells #[.int .i64 t820, .int .i64 t821, (.slice Ao32 t841.length co32)] 59 (0, 0))) ∧ Aside0 (wc.heap[gb832]? = some (.cells #[.int .i64 t826, .int .i64 t827, (.slice Ao39 t828.length co39)] 59 (0, 0))) ∧ Aside0 (wc.heap[gb857]? = some (.cells #[.int .i64 t851, .int .i64 t852, (.slice Ao126 t853.length co126)] 59 (0, 0))) ∧ Aside0 (Below w.heap.size w wc))
           case first =>
            have H := HC106.out
            clear HC106
            replace H := Option.bind_eq_some_iff.mp H
            obtain ⟨t858, A1270, H⟩ := H
            replace H : (if t858 = true then (laws_FnExactPaintPair.j2 kj62 t843 (t856 != t818) t826 t827 t844) else (laws_FnExactPaintPair.j2 kj62 t843 true t826 t827 t844)) = some r := H
            have A127 := Aside0.mk A1270
            clear A1270
            by_cases c128 : t858 = true
            ·subst c128
             have H1 : (laws_FnExactPaintPair.j2 kj62 t843 (t856 != t818) t826 t827 t844) = some r := by rw [if_pos rfl] at H; exact H
             clear H
             have H := H1
             clear H1
             have H' := Aside0.mk H
             clear H
             have hnb129 := NB857_806.out
             have hnc129 := NB806_857.out
             have hnb130 := NB857_819.out
             have hnc130 := NB819_857.out
             have hnb131 := NB857_825.out
             have hnc131 := NB825_857.out
             have hnb132 := NB857_832.out
             have hnc132 := NB832_857.out
             have hcz133_0 : w120.cell? ⟨gb857, 0, none⟩ = some (.int .i64 0) := (blk_cell BK857.out 0).trans rfl
             have hcz133_1 : w120.cell? ⟨gb857, 1, none⟩ = some (.int .i64 0) := (blk_cell BK857.out 1).trans rfl
             have hcz133_2 : w120.cell? ⟨gb857, 2, none⟩ = some (.slice none 0 0) := (blk_cell BK857.out 2).trans rfl
             have hfz133_0 := blk_frozen BK857.out 0
             have hfz133_1 := blk_frozen BK857.out 1
             have hfz133_2 := blk_frozen BK857.out 2
             have hnb134 := NB819_806.out
             have hnc134 := NB806_819.out
             have hnb135 := NB819_825.out
             have hnc135 := NB825_819.out
             have hnb136 := NB819_832.out
             have hnc136 := NB832_819.out
             have hcz137_0 : w120.cell? ⟨gb819, 0, none⟩ = some (.int .i64 t813) := (blk_cell BK819.out 0).trans rfl
             have hcz137_1 : w120.cell? ⟨gb819, 1, none⟩ = some (.int .i64 t814) := (blk_cell BK819.out 1).trans rfl
             have hcz137_2 : w120.cell? ⟨gb819, 2, none⟩ = some (.slice Ao25 t815.length co25) := (blk_cell BK819.out 2).trans rfl
             have hfz137_0 := blk_frozen BK819.out 0
             have hfz137_1 := blk_frozen BK819.out 1
             have hfz137_2 := blk_frozen BK819.out 2
             go_wp2_with (first | ((with_reducible refine gate_callee (f := 44) rfl ?_); refine goesL_ (some 96) rfl rfl Try.func44 (by kernel_rfl) rfl #[.agg #[.int .i64 t851, .int .i64 t852, .slice Ao126 t853.length co126], .agg #[.int .i64 t813, .int .i64 t814, .slice Ao25 t815.length co25]] rfl (by (try simp only [List.map_toArray, List.map_cons, List.map_nil]); first | done | rfl | (simp only [List.length_drop, List.length_take]; rfl)) ?_; (with_reducible refine (laws_eqPainting.calls kj62 t851 t852 _ _ t853 t813 t814 _ _ t815 true _ ?side1 ?side2 ?side3 ?side4 A127.out).mono ?_); (case side1 => refine (Kd.R_reads' (e := 3) (base := w.heap.size) (ok := fun k_ => ((((True ∧ some k_ ≠ (.slice Ao25 t815.length co25 : Value).ownBlock) ∧ some k_ ≠ (.slice Ao32 t841.length co32 : Value).ownBlock) ∧ some k_ ≠ (.slice Ao39 t828.length co39 : Value).ownBlock) ∧ some k_ ≠ (.slice Ao118 t848.length co118 : Value).ownBlock)) (n := t853.length) (c := co126) ?_).2.2; exact (by (with_reducible repeat (first | apply Kd.R_alloc | apply Kd.R_drewN | apply Kd.R_drew)); exact (Kd.R_mono (Kd.R_far (p := ⟨gb857, 2, none⟩) (Kd.R_far (p := ⟨gb857, 1, none⟩) (Kd.R_far (p := ⟨gb857, 0, none⟩) (Kd.R_types HO855.out BK857.out (by decide)) (fun _ hk => hk.2) (.int .i64 t851)) (fun _ hk => hk.2) (.int .i64 t852)) (fun _ hk => hk.2) (.slice Ao126 t853.length co126)) (fun _ h_ => h_.1)))); (case side2 => exact (Kd.R_reads' HO855.out).2.1); (case side3 => refine (Kd.R_reads' (e := 3) (base := w.heap.size) (ok := fun k_ => (((some k_ ≠ (.slice Ao32 t841.length co32 : Value).ownBlock ∧ some k_ ≠ (.slice Ao39 t828.length co39 : Value).ownBlock) ∧ some k_ ≠ (.slice Ao118 t848.length co118 : Value).ownBlock) ∧ some k_ ≠ (.slice Ao126 t853.length co126 : Value).ownBlock)) (n := t815.length) (c := co25) ?_).2.2; exact (by (with_reducible repeat (first | apply Kd.R_alloc | apply Kd.R_drewN | apply Kd.R_drew)); exact (Kd.R_mono (Kd.R_far (p := ⟨gb857, 2, none⟩) (Kd.R_far (p := ⟨gb857, 1, none⟩) (Kd.R_far (p := ⟨gb857, 0, none⟩) (Kd.R_types HO_820002.out BK857.out (by decide)) (fun _ hk => hk.2) (.int .i64 t851)) (fun _ hk => hk.2) (.int .i64 t852)) (fun _ hk => hk.2) (.slice Ao126 t853.length co126)) (fun _ h_ => h_.1)))); (case side4 => exact (Kd.R_reads' HO_820002.out).2.1); rintro e w138 ⟨rfl, hb⟩; refine ⟨_, rfl, ?_⟩; have n0_ := Aside0.mk (Kd.R_below (by (with_reducible repeat (first | apply Kd.R_alloc | apply Kd.R_drewN | apply Kd.R_drew)); exact (Kd.R_mono (Kd.R_far (p := ⟨gb857, 2, none⟩) (Kd.R_far (p := ⟨gb857, 1, none⟩) (Kd.R_far (p := ⟨gb857, 0, none⟩) (Kd.R_types HO_820002.out BK857.out (by decide)) (fun _ hk => hk.2) (.int .i64 t851)) (fun _ hk => hk.2) (.int .i64 t852)) (fun _ hk => hk.2) (.slice Ao126 t853.length co126)) (fun _ h_ => h_.1))) hb); have n1_ := Aside0.mk (Kd.R_below (by (with_reducible repeat (first | apply Kd.R_alloc | apply Kd.R_drewN | apply Kd.R_drew)); exact (Kd.R_mono (Kd.R_far (p := ⟨gb857, 2, none⟩) (Kd.R_far (p := ⟨gb857, 1, none⟩) (Kd.R_far (p := ⟨gb857, 0, none⟩) (Kd.R_types HO_826002.out BK857.out (by decide)) (fun _ hk => hk.2) (.int .i64 t851)) (fun _ hk => hk.2) (.int .i64 t852)) (fun _ hk => hk.2) (.slice Ao126 t853.length co126)) (fun _ h_ => h_.1))) hb); have n2_ := Aside0.mk (Kd.R_below (by (with_reducible repeat (first | apply Kd.R_alloc | apply Kd.R_drewN | apply Kd.R_drew)); exact (Kd.R_mono (Kd.R_far (p := ⟨gb857, 2, none⟩) (Kd.R_far (p := ⟨gb857, 1, none⟩) (Kd.R_far (p := ⟨gb857, 0, none⟩) (Kd.R_types HO_833002.out BK857.out (by decide)) (fun _ hk => hk.2) (.int .i64 t851)) (fun _ hk => hk.2) (.int .i64 t852)) (fun _ hk => hk.2) (.slice Ao126 t853.length co126)) (fun _ h_ => h_.1))) hb); have n3_ := Aside0.mk (Kd.R_below (by (with_reducible repeat (first | apply Kd.R_alloc | apply Kd.R_drewN | apply Kd.R_drew)); exact (Kd.R_mono (Kd.R_far (p := ⟨gb857, 2, none⟩) (Kd.R_far (p := ⟨gb857, 1, none⟩) (Kd.R_far (p := ⟨gb857, 0, none⟩) (Kd.R_types HO850.out BK857.out (by decide)) (fun _ hk => hk.2) (.int .i64 t851)) (fun _ hk => hk.2) (.int .i64 t852)) (fun _ hk => hk.2) (.slice Ao126 t853.length co126)) (fun _ h_ => h_.1))) hb); have n4_ := Aside0.mk (Kd.R_below (by (with_reducible repeat (first | apply Kd.R_alloc | apply Kd.R_drewN | apply Kd.R_drew)); exact (Kd.R_mono (Kd.R_far (p := ⟨gb857, 2, none⟩) (Kd.R_far (p := ⟨gb857, 1, none⟩) (Kd.R_far (p := ⟨gb857, 0, none⟩) (Kd.R_types HO855.out BK857.out (by decide)) (fun _ hk => hk.2) (.int .i64 t851)) (fun _ hk => hk.2) (.int .i64 t852)) (fun _ hk => hk.2) (.slice Ao126 t853.length co126)) (fun _ h_ => h_.1))) hb); have n5_ := Aside0.mk (blk_below (g := gb806) (o := .cells #[.int .i64 a0_0, .int .i64 a0_1, .slice A0_2 l0_2.length c0_2] 57 (0, 0)) (by (with_reducible repeat (first | refine blk_drewN ?_ _ | refine blk_drew ?_ | refine blk_alloc ?_ _)); refine blk_far ?_ NB806_857.out _; (with_reducible repeat (first | refine blk_drewN ?_ _ | refine blk_drew ?_ | refine blk_alloc ?_ _)); refine blk_far ?_ NB806_857.out _; (with_reducible repeat (first | refine blk_drewN ?_ _ | refine blk_drew ?_ | refine blk_alloc ?_ _)); refine blk_far ?_ NB806_857.out _; (with_reducible repeat (first | refine blk_drewN ?_ _ | refine blk_drew ?_ | refine blk_alloc ?_ _)); exact BK806.out) hb); have n6_ := Aside0.mk (blk_below (g := gb819) (o := .cells #[.int .i64 t813, .int .i64 t814, .slice Ao25 t815.length co25] 59 (0, 0)) (by (with_reducible repeat (first | refine blk_drewN ?_ _ | refine blk_drew ?_ | refine blk_alloc ?_ _)); refine blk_far ?_ NB819_857.out _; (with_reducible repeat (first | refine blk_drewN ?_ _ | refine blk_drew ?_ | refine blk_alloc ?_ _)); refine blk_far ?_ NB819_857.out _; (with_reducible repeat (first | refine blk_drewN ?_ _ | refine blk_drew ?_ | refine blk_alloc ?_ _)); refine blk_far ?_ NB819_857.out _; (with_reducible repeat (first | refine blk_drewN ?_ _ | refine blk_drew ?_ | refine blk_alloc ?_ _)); exact BK819.out) hb); have n7_ := Aside0.mk (blk_below (g := gb825) (o := .cells #[.int .i64 t820, .int .i64 t821, .slice Ao32 t841.length co32] 59 (0, 0)) (by (with_reducible repeat (first | refine blk_drewN ?_ _ | refine blk_drew ?_ | refine blk_alloc ?_ _)); refine blk_far ?_ NB825_857.out _; (with_reducible repeat (first | refine blk_drewN ?_ _ | refine blk_drew ?_ | refine blk_alloc ?_ _)); refine blk_far ?_ NB825_857.out _; (with_reducible repeat (first | refine blk_drewN ?_ _ | refine blk_drew ?_ | refine blk_alloc ?_ _)); refine blk_far ?_ NB825_857.out _; (with_reducible repeat (first | refine blk_drewN ?_ _ | refine blk_drew ?_ | refine blk_alloc ?_ _)); exact BK825.out) hb); have n8_ := Aside0.mk (blk_below (g := gb832) (o := .cells #[.int .i64 t826, .int .i64 t827, .slice Ao39 t828.length co39] 59 (0, 0)) (by (with_reducible repeat (first | refine blk_drewN ?_ _ | refine blk_drew ?_ | refine blk_alloc ?_ _)); refine blk_far ?_ NB832_857.out _; (with_reducible repeat (first | refine blk_drewN ?_ _ | refine blk_drew ?_ | refine blk_alloc ?_ _)); refine blk_far ?_ NB832_857.out _; (with_reducible repeat (first | refine blk_drewN ?_ _ | refine blk_drew ?_ | refine blk_alloc ?_ _)); refine blk_far ?_ NB832_857.out _; (with_reducible repeat (first | refine blk_drewN ?_ _ | refine blk_drew ?_ | refine blk_alloc ?_ _)); exact BK832.out) hb); have n9_ := Aside0.mk (blk_below (g := gb857) (o := .cells #[.int .i64 t851, .int .i64 t852, .slice Ao126 t853.length co126] 59 (0, 0)) (by (with_reducible repeat (first | refine blk_drewN ?_ _ | refine blk_drew ?_ | refine blk_alloc ?_ _)); refine blk_put (cs := #[.int .i64 t851, .int .i64 t852, .slice none 0 0]) ?_ 2 _ rfl; (with_reducible repeat (first | refine blk_drewN ?_ _ | refine blk_drew ?_ | refine blk_alloc ?_ _)); refine blk_put (cs := #[.int .i64 t851, .int .i64 0, .slice none 0 0]) ?_ 1 _ rfl; (with_reducible repeat (first | refine blk_drewN ?_ _ | refine blk_drew ?_ | refine blk_alloc ?_ _)); refine blk_put (cs := #[.int .i64 0, .int .i64 0, .slice none 0 0]) ?_ 0 _ rfl; (with_reducible repeat (first | refine blk_drewN ?_ _ | refine blk_drew ?_ | refine blk_alloc ?_ _)); exact BK857.out) hb); have n10_ := Aside0.mk (below_step (by repeat (first | (with_reducible first | exact HB.out | apply below_alloc | apply pw_below_drewN | apply below_drew1 | refine below_set ?_ GE806.out | refine below_set ?_ GE819.out | refine below_set ?_ GE825.out | refine below_set ?_ GE832.out | refine below_set ?_ GE857.out) | exact HB.out)) hb); clear HO_820002; clear HO_826002; clear HO_833002; clear HO850; clear HO855; clear BK806; clear BK819; clear BK825; clear BK832; clear BK857; clear HB; have HO_820002 := n0_; have HO_826002 := n1_; have HO_833002 := n2_; have HO850 := n3_; have HO855 := n4_; have BK806 := n5_; have BK819 := n6_; have BK825 := n7_; have BK832 := n8_; have BK857 := n9_; have HB := n10_; clear n0_ n1_ n2_ n3_ n4_ n5_ n6_ n7_ n8_ n9_ n10_; (try clear hb); (try clear hb2); (try clear hk); (try clear hi)))
             go_meet
             case rel => exact ⟨_, ((t856 != t818)), (by first | rfl | (simp; done) | (simp [*]; done)), H', ⟨by have := HJ13.out; have := HJ62.out; first | omega | exact Nat.le_refl _⟩, ⟨by (try simp only [hl826002_62]); (with_reducible repeat (first | apply Kd.R_alloc | apply Kd.R_drewN | apply Kd.R_drew)); exact Kd.R_mono HO_820002.out (fun _ hk => ⟨hk.1.1.1, ⟨hk.1.1.2, hk.2⟩⟩)⟩, ⟨by (try simp only [hl826002_62]); (with_reducible repeat (first | apply Kd.R_alloc | apply Kd.R_drewN | apply Kd.R_drew)); exact Kd.R_mono HO_826002.out (fun _ hk => ⟨hk.1.1.1, ⟨hk.1.1.2, hk.2⟩⟩)⟩, ⟨by (try simp only [hl826002_62]); (with_reducible repeat (first | apply Kd.R_alloc | apply Kd.R_drewN | apply Kd.R_drew)); exact Kd.R_mono HO_833002.out (fun _ hk => ⟨hk.1.1.1, ⟨hk.1.1.2, hk.2⟩⟩)⟩, ⟨by (try simp only [hl826002_62]); (with_reducible repeat (first | apply Kd.R_alloc | apply Kd.R_drewN | apply Kd.R_drew)); exact Kd.R_mono HO855.out (fun _ hk => ⟨hk.1.1.1.2, ⟨hk.1.1.2, hk.1.2⟩⟩)⟩, ⟨by (try simp only [hl826002_62]); (with_reducible repeat (first | refine blk_drewN ?_ _ | refine blk_drew ?_ | refine blk_alloc ?_ _)); exact BK806.out⟩, ⟨by (try simp only [hl826002_62]); (with_reducible repeat (first | refine blk_drewN ?_ _ | refine blk_drew ?_ | refine blk_alloc ?_ _)); exact BK819.out⟩, ⟨by (try simp only [hl826002_62]); (with_reducible repeat (first | refine blk_drewN ?_ _ | refine blk_drew ?_ | refine blk_alloc ?_ _)); exact BK825.out⟩, ⟨by (try simp only [hl826002_62]); (with_reducible repeat (first | refine blk_drewN ?_ _ | refine blk_drew ?_ | refine blk_alloc ?_ _)); exact BK832.out⟩, ⟨by (try simp only [hl826002_62]); (with_reducible repeat (first | refine blk_drewN ?_ _ | refine blk_drew ?_ | refine blk_alloc ?_ _)); exact BK857.out⟩, ⟨by repeat (first | (with_reducible first | exact HB.out | apply below_alloc | apply pw_below_drewN | apply below_drew1 | refine below_set ?_ GE806.out | refine below_set ?_ GE819.out | refine below_set ?_ GE825.out | refine below_set ?_ GE832.out | refine below_set ?_ GE857.out) | exact HB.out)⟩⟩
            ·replace c128 := Bool.eq_false_iff.mpr c128
             subst c128
             have H1 : (laws_FnExactPaintPair.j2 kj62 t843 true t826 t827 t844) = some r := by rw [if_neg (show ¬ (false = true) by decide)] at H; exact H
             clear H
             have H := H1
             clear H1
             have H' := Aside0.mk H
             clear H
             have hnb139 := NB857_806.out
             have hnc139 := NB806_857.out
             have hnb140 := NB857_819.out
             have hnc140 := NB819_857.out
             have hnb141 := NB857_825.out
             have hnc141 := NB825_857.out
             have hnb142 := NB857_832.out
             have hnc142 := NB832_857.out
             have hcz143_0 : w120.cell? ⟨gb857, 0, none⟩ = some (.int .i64 0) := (blk_cell BK857.out 0).trans rfl
             have hcz143_1 : w120.cell? ⟨gb857, 1, none⟩ = some (.int .i64 0) := (blk_cell BK857.out 1).trans rfl
             have hcz143_2 : w120.cell? ⟨gb857, 2, none⟩ = some (.slice none 0 0) := (blk_cell BK857.out 2).trans rfl
             have hfz143_0 := blk_frozen BK857.out 0
             have hfz143_1 := blk_frozen BK857.out 1
             have hfz143_2 := blk_frozen BK857.out 2
             have hnb144 := NB819_806.out
             have hnc144 := NB806_819.out
             have hnb145 := NB819_825.out
             have hnc145 := NB825_819.out
             have hnb146 := NB819_832.out
             have hnc146 := NB832_819.out
             have hcz147_0 : w120.cell? ⟨gb819, 0, none⟩ = some (.int .i64 t813) := (blk_cell BK819.out 0).trans rfl
             have hcz147_1 : w120.cell? ⟨gb819, 1, none⟩ = some (.int .i64 t814) := (blk_cell BK819.out 1).trans rfl
             have hcz147_2 : w120.cell? ⟨gb819, 2, none⟩ = some (.slice Ao25 t815.length co25) := (blk_cell BK819.out 2).trans rfl
             have hfz147_0 := blk_frozen BK819.out 0
             have hfz147_1 := blk_frozen BK819.out 1
             have hfz147_2 := blk_frozen BK819.out 2
             go_wp2_with (first | ((with_reducible refine gate_callee (f := 44) rfl ?_); refine goesL_ (some 96) rfl rfl Try.func44 (by kernel_rfl) rfl #[.agg #[.int .i64 t851, .int .i64 t852, .slice Ao126 t853.length co126], .agg #[.int .i64 t813, .int .i64 t814, .slice Ao25 t815.length co25]] rfl (by (try simp only [List.map_toArray, List.map_cons, List.map_nil]); first | done | rfl | (simp only [List.length_drop, List.length_take]; rfl)) ?_; (with_reducible refine (laws_eqPainting.calls kj62 t851 t852 _ _ t853 t813 t814 _ _ t815 false _ ?side1 ?side2 ?side3 ?side4 A127.out).mono ?_); (case side1 => refine (Kd.R_reads' (e := 3) (base := w.heap.size) (ok := fun k_ => ((((True ∧ some k_ ≠ (.slice Ao25 t815.length co25 : Value).ownBlock) ∧ some k_ ≠ (.slice Ao32 t841.length co32 : Value).ownBlock) ∧ some k_ ≠ (.slice Ao39 t828.length co39 : Value).ownBlock) ∧ some k_ ≠ (.slice Ao118 t848.length co118 : Value).ownBlock)) (n := t853.length) (c := co126) ?_).2.2; exact (by (with_reducible repeat (first | apply Kd.R_alloc | apply Kd.R_drewN | apply Kd.R_drew)); exact (Kd.R_mono (Kd.R_far (p := ⟨gb857, 2, none⟩) (Kd.R_far (p := ⟨gb857, 1, none⟩) (Kd.R_far (p := ⟨gb857, 0, none⟩) (Kd.R_types HO855.out BK857.out (by decide)) (fun _ hk => hk.2) (.int .i64 t851)) (fun _ hk => hk.2) (.int .i64 t852)) (fun _ hk => hk.2) (.slice Ao126 t853.length co126)) (fun _ h_ => h_.1)))); (case side2 => exact (Kd.R_reads' HO855.out).2.1); (case side3 => refine (Kd.R_reads' (e := 3) (base := w.heap.size) (ok := fun k_ => (((some k_ ≠ (.slice Ao32 t841.length co32 : Value).ownBlock ∧ some k_ ≠ (.slice Ao39 t828.length co39 : Value).ownBlock) ∧ some k_ ≠ (.slice Ao118 t848.length co118 : Value).ownBlock) ∧ some k_ ≠ (.slice Ao126 t853.length co126 : Value).ownBlock)) (n := t815.length) (c := co25) ?_).2.2; exact (by (with_reducible repeat (first | apply Kd.R_alloc | apply Kd.R_drewN | apply Kd.R_drew)); exact (Kd.R_mono (Kd.R_far (p := ⟨gb857, 2, none⟩) (Kd.R_far (p := ⟨gb857, 1, none⟩) (Kd.R_far (p := ⟨gb857, 0, none⟩) (Kd.R_types HO_820002.out BK857.out (by decide)) (fun _ hk => hk.2) (.int .i64 t851)) (fun _ hk => hk.2) (.int .i64 t852)) (fun _ hk => hk.2) (.slice Ao126 t853.length co126)) (fun _ h_ => h_.1)))); (case side4 => exact (Kd.R_reads' HO_820002.out).2.1); rintro e w148 ⟨rfl, hb⟩; refine ⟨_, rfl, ?_⟩; have n0_ := Aside0.mk (Kd.R_below (by (with_reducible repeat (first | apply Kd.R_alloc | apply Kd.R_drewN | apply Kd.R_drew)); exact (Kd.R_mono (Kd.R_far (p := ⟨gb857, 2, none⟩) (Kd.R_far (p := ⟨gb857, 1, none⟩) (Kd.R_far (p := ⟨gb857, 0, none⟩) (Kd.R_types HO_820002.out BK857.out (by decide)) (fun _ hk => hk.2) (.int .i64 t851)) (fun _ hk => hk.2) (.int .i64 t852)) (fun _ hk => hk.2) (.slice Ao126 t853.length co126)) (fun _ h_ => h_.1))) hb); have n1_ := Aside0.mk (Kd.R_below (by (with_reducible repeat (first | apply Kd.R_alloc | apply Kd.R_drewN | apply Kd.R_drew)); exact (Kd.R_mono (Kd.R_far (p := ⟨gb857, 2, none⟩) (Kd.R_far (p := ⟨gb857, 1, none⟩) (Kd.R_far (p := ⟨gb857, 0, none⟩) (Kd.R_types HO_826002.out BK857.out (by decide)) (fun _ hk => hk.2) (.int .i64 t851)) (fun _ hk => hk.2) (.int .i64 t852)) (fun _ hk => hk.2) (.slice Ao126 t853.length co126)) (fun _ h_ => h_.1))) hb); have n2_ := Aside0.mk (Kd.R_below (by (with_reducible repeat (first | apply Kd.R_alloc | apply Kd.R_drewN | apply Kd.R_drew)); exact (Kd.R_mono (Kd.R_far (p := ⟨gb857, 2, none⟩) (Kd.R_far (p := ⟨gb857, 1, none⟩) (Kd.R_far (p := ⟨gb857, 0, none⟩) (Kd.R_types HO_833002.out BK857.out (by decide)) (fun _ hk => hk.2) (.int .i64 t851)) (fun _ hk => hk.2) (.int .i64 t852)) (fun _ hk => hk.2) (.slice Ao126 t853.length co126)) (fun _ h_ => h_.1))) hb); have n3_ := Aside0.mk (Kd.R_below (by (with_reducible repeat (first | apply Kd.R_alloc | apply Kd.R_drewN | apply Kd.R_drew)); exact (Kd.R_mono (Kd.R_far (p := ⟨gb857, 2, none⟩) (Kd.R_far (p := ⟨gb857, 1, none⟩) (Kd.R_far (p := ⟨gb857, 0, none⟩) (Kd.R_types HO850.out BK857.out (by decide)) (fun _ hk => hk.2) (.int .i64 t851)) (fun _ hk => hk.2) (.int .i64 t852)) (fun _ hk => hk.2) (.slice Ao126 t853.length co126)) (fun _ h_ => h_.1))) hb); have n4_ := Aside0.mk (Kd.R_below (by (with_reducible repeat (first | apply Kd.R_alloc | apply Kd.R_drewN | apply Kd.R_drew)); exact (Kd.R_mono (Kd.R_far (p := ⟨gb857, 2, none⟩) (Kd.R_far (p := ⟨gb857, 1, none⟩) (Kd.R_far (p := ⟨gb857, 0, none⟩) (Kd.R_types HO855.out BK857.out (by decide)) (fun _ hk => hk.2) (.int .i64 t851)) (fun _ hk => hk.2) (.int .i64 t852)) (fun _ hk => hk.2) (.slice Ao126 t853.length co126)) (fun _ h_ => h_.1))) hb); have n5_ := Aside0.mk (blk_below (g := gb806) (o := .cells #[.int .i64 a0_0, .int .i64 a0_1, .slice A0_2 l0_2.length c0_2] 57 (0, 0)) (by (with_reducible repeat (first | refine blk_drewN ?_ _ | refine blk_drew ?_ | refine blk_alloc ?_ _)); refine blk_far ?_ NB806_857.out _; (with_reducible repeat (first | refine blk_drewN ?_ _ | refine blk_drew ?_ | refine blk_alloc ?_ _)); refine blk_far ?_ NB806_857.out _; (with_reducible repeat (first | refine blk_drewN ?_ _ | refine blk_drew ?_ | refine blk_alloc ?_ _)); refine blk_far ?_ NB806_857.out _; (with_reducible repeat (first | refine blk_drewN ?_ _ | refine blk_drew ?_ | refine blk_alloc ?_ _)); exact BK806.out) hb); have n6_ := Aside0.mk (blk_below (g := gb819) (o := .cells #[.int .i64 t813, .int .i64 t814, .slice Ao25 t815.length co25] 59 (0, 0)) (by (with_reducible repeat (first | refine blk_drewN ?_ _ | refine blk_drew ?_ | refine blk_alloc ?_ _)); refine blk_far ?_ NB819_857.out _; (with_reducible repeat (first | refine blk_drewN ?_ _ | refine blk_drew ?_ | refine blk_alloc ?_ _)); refine blk_far ?_ NB819_857.out _; (with_reducible repeat (first | refine blk_drewN ?_ _ | refine blk_drew ?_ | refine blk_alloc ?_ _)); refine blk_far ?_ NB819_857.out _; (with_reducible repeat (first | refine blk_drewN ?_ _ | refine blk_drew ?_ | refine blk_alloc ?_ _)); exact BK819.out) hb); have n7_ := Aside0.mk (blk_below (g := gb825) (o := .cells #[.int .i64 t820, .int .i64 t821, .slice Ao32 t841.length co32] 59 (0, 0)) (by (with_reducible repeat (first | refine blk_drewN ?_ _ | refine blk_drew ?_ | refine blk_alloc ?_ _)); refine blk_far ?_ NB825_857.out _; (with_reducible repeat (first | refine blk_drewN ?_ _ | refine blk_drew ?_ | refine blk_alloc ?_ _)); refine blk_far ?_ NB825_857.out _; (with_reducible repeat (first | refine blk_drewN ?_ _ | refine blk_drew ?_ | refine blk_alloc ?_ _)); refine blk_far ?_ NB825_857.out _; (with_reducible repeat (first | refine blk_drewN ?_ _ | refine blk_drew ?_ | refine blk_alloc ?_ _)); exact BK825.out) hb); have n8_ := Aside0.mk (blk_below (g := gb832) (o := .cells #[.int .i64 t826, .int .i64 t827, .slice Ao39 t828.length co39] 59 (0, 0)) (by (with_reducible repeat (first | refine blk_drewN ?_ _ | refine blk_drew ?_ | refine blk_alloc ?_ _)); refine blk_far ?_ NB832_857.out _; (with_reducible repeat (first | refine blk_drewN ?_ _ | refine blk_drew ?_ | refine blk_alloc ?_ _)); refine blk_far ?_ NB832_857.out _; (with_reducible repeat (first | refine blk_drewN ?_ _ | refine blk_drew ?_ | refine blk_alloc ?_ _)); refine blk_far ?_ NB832_857.out _; (with_reducible repeat (first | refine blk_drewN ?_ _ | refine blk_drew ?_ | refine blk_alloc ?_ _)); exact BK832.out) hb); have n9_ := Aside0.mk (blk_below (g := gb857) (o := .cells #[.int .i64 t851, .int .i64 t852, .slice Ao126 t853.length co126] 59 (0, 0)) (by (with_reducible repeat (first | refine blk_drewN ?_ _ | refine blk_drew ?_ | refine blk_alloc ?_ _)); refine blk_put (cs := #[.int .i64 t851, .int .i64 t852, .slice none 0 0]) ?_ 2 _ rfl; (with_reducible repeat (first | refine blk_drewN ?_ _ | refine blk_drew ?_ | refine blk_alloc ?_ _)); refine blk_put (cs := #[.int .i64 t851, .int .i64 0, .slice none 0 0]) ?_ 1 _ rfl; (with_reducible repeat (first | refine blk_drewN ?_ _ | refine blk_drew ?_ | refine blk_alloc ?_ _)); refine blk_put (cs := #[.int .i64 0, .int .i64 0, .slice none 0 0]) ?_ 0 _ rfl; (with_reducible repeat (first | refine blk_drewN ?_ _ | refine blk_drew ?_ | refine blk_alloc ?_ _)); exact BK857.out) hb); have n10_ := Aside0.mk (below_step (by repeat (first | (with_reducible first | exact HB.out | apply below_alloc | apply pw_below_drewN | apply below_drew1 | refine below_set ?_ GE806.out | refine below_set ?_ GE819.out | refine below_set ?_ GE825.out | refine below_set ?_ GE832.out | refine below_set ?_ GE857.out) | exact HB.out)) hb); clear HO_820002; clear HO_826002; clear HO_833002; clear HO850; clear HO855; clear BK806; clear BK819; clear BK825; clear BK832; clear BK857; clear HB; have HO_820002 := n0_; have HO_826002 := n1_; have HO_833002 := n2_; have HO850 := n3_; have HO855 := n4_; have BK806 := n5_; have BK819 := n6_; have BK825 := n7_; have BK832 := n8_; have BK857 := n9_; have HB := n10_; clear n0_ n1_ n2_ n3_ n4_ n5_ n6_ n7_ n8_ n9_ n10_; (try clear hb); (try clear hb2); (try clear hk); (try clear hi)))
             go_meet
             case rel => exact ⟨_, (true), (by first | rfl | (simp; done) | (simp [*]; done)), H', ⟨by have := HJ13.out; have := HJ62.out; first | omega | exact Nat.le_refl _⟩, ⟨by (try simp only [hl826002_62]); (with_reducible repeat (first | apply Kd.R_alloc | apply Kd.R_drewN | apply Kd.R_drew)); exact Kd.R_mono HO_820002.out (fun _ hk => ⟨hk.1.1.1, ⟨hk.1.1.2, hk.2⟩⟩)⟩, ⟨by (try simp only [hl826002_62]); (with_reducible repeat (first | apply Kd.R_alloc | apply Kd.R_drewN | apply Kd.R_drew)); exact Kd.R_mono HO_826002.out (fun _ hk => ⟨hk.1.1.1, ⟨hk.1.1.2, hk.2⟩⟩)⟩, ⟨by (try simp only [hl826002_62]); (with_reducible repeat (first | apply Kd.R_alloc | apply Kd.R_drewN | apply Kd.R_drew)); exact Kd.R_mono HO_833002.out (fun _ hk => ⟨hk.1.1.1, ⟨hk.1.1.2, hk.2⟩⟩)⟩, ⟨by (try simp only [hl826002_62]); (with_reducible repeat (first | apply Kd.R_alloc | apply Kd.R_drewN | apply Kd.R_drew)); exact Kd.R_mono HO855.out (fun _ hk => ⟨hk.1.1.1.2, ⟨hk.1.1.2, hk.1.2⟩⟩)⟩, ⟨by (try simp only [hl826002_62]); (with_reducible repeat (first | refine blk_drewN ?_ _ | refine blk_drew ?_ | refine blk_alloc ?_ _)); exact BK806.out⟩, ⟨by (try simp only [hl826002_62]); (with_reducible repeat (first | refine blk_drewN ?_ _ | refine blk_drew ?_ | refine blk_alloc ?_ _)); exact BK819.out⟩, ⟨by (try simp only [hl826002_62]); (with_reducible repeat (first | refine blk_drewN ?_ _ | refine blk_drew ?_ | refine blk_alloc ?_ _)); exact BK825.out⟩, ⟨by (try simp only [hl826002_62]); (with_reducible repeat (first | refine blk_drewN ?_ _ | refine blk_drew ?_ | refine blk_alloc ?_ _)); exact BK832.out⟩, ⟨by (try simp only [hl826002_62]); (with_reducible repeat (first | refine blk_drewN ?_ _ | refine blk_drew ?_ | refine blk_alloc ?_ _)); exact BK857.out⟩, ⟨by repeat (first | (with_reducible first | exact HB.out | apply below_alloc | apply pw_below_drewN | apply below_drew1 | refine below_set ?_ GE806.out | refine below_set ?_ GE819.out | refine below_set ?_ GE825.out | refine below_set ?_ GE832.out | refine below_set ?_ GE857.out) | exact HB.out)⟩⟩
           case rest =>
            clear HC106
            try clear c1
            try clear c2
            try clear p2
            try clear c3
            try clear c4
            try clear c5
            try clear c6
            try clear c6b0
            try clear c7
            try clear c8
            try clear c9
            try clear c10
            try clear c11
            try clear c12
            try clear c13
            try clear c14
            try clear c23
            try clear c29
            try clear c30
            try clear c35
            try clear c36
            try clear c37
            try clear c40
            try clear c41
            try clear c42
            try clear c43
            try clear c44
            try clear c45
            try clear c46
            try clear c47
            try clear c48
            try clear c50
            try clear c51
            try clear c52
            try clear c54
            try clear c55
            try clear c58
            try clear c61
            try clear c68
            try clear c69
            try clear c70
            try clear c73
            try clear c73b0
            try clear c75
            try clear c76
            try clear c77
            try clear c78
            try clear c80
            try clear c81
            try clear c84
            try clear c85
            try clear c86
            try clear c88
            try clear c89
            try clear c92
            try clear c95
            try clear c95b0
            try clear c96
            try clear c97
            try clear c98
            try clear c103
            try clear c103b0
            try clear c103b1
            try clear c107
            try clear c108
            try clear c109
            try clear c114
            try clear c115
            try clear c121
            try clear c122
            try clear c123
            try clear c124
            try clear c128
            try clear c129
            try clear c130
            try clear c131
            try clear c132
            try clear c134
            try clear c135
            try clear c136
            try clear c139
            try clear c140
            try clear c141
            try clear c142
            try clear c144
            try clear c145
            try clear c146
            try clear hcz101_0
            try clear hcz101_1
            try clear hcz101_2
            try clear hcz110_0
            try clear hcz110_1
            try clear hcz110_2
            try clear hcz112_0
            try clear hcz112_1
            try clear hcz112_2
            try clear hcz116_0
            try clear hcz116_1
            try clear hcz116_2
            try clear hcz125_0
            try clear hcz125_1
            try clear hcz125_2
            try clear hcz133_0
            try clear hcz133_1
            try clear hcz133_2
            try clear hcz137_0
            try clear hcz137_1
            try clear hcz137_2
            try clear hcz143_0
            try clear hcz143_1
            try clear hcz143_2
            try clear hcz147_0
            try clear hcz147_1
            try clear hcz147_2
            try clear hcz16_0
            try clear hcz16_1
            try clear hcz16_2
            try clear hcz18_0
            try clear hcz18_1
            try clear hcz18_2
            try clear hcz24_0
            try clear hcz24_1
            try clear hcz24_2
            try clear hcz26_0
            try clear hcz26_1
            try clear hcz26_2
            try clear hcz31_0
            try clear hcz31_1
            try clear hcz31_2
            try clear hcz38_0
            try clear hcz38_1
            try clear hcz38_2
            try clear hcz45_0
            try clear hcz45_1
            try clear hcz45_2
            try clear hcz48_0
            try clear hcz48_1
            try clear hcz48_2
            try clear hcz53_0
            try clear hcz53_1
            try clear hcz53_2
            try clear hcz56_0
            try clear hcz56_1
            try clear hcz56_2
            try clear hcz71_0
            try clear hcz71_1
            try clear hcz71_2
            try clear hcz79_0
            try clear hcz79_1
            try clear hcz79_2
            try clear hcz82_0
            try clear hcz82_1
            try clear hcz82_2
            try clear hcz87_0
            try clear hcz87_1
            try clear hcz87_2
            try clear hcz8_0
            try clear hcz8_1
            try clear hcz8_2
            try clear hcz90_0
            try clear hcz90_1
            try clear hcz90_2
            try clear hcz99_0
            try clear hcz99_1
            try clear hcz99_2
            try clear hfz101_0
            try clear hfz101_1
            try clear hfz101_2
            try clear hfz110_0
            try clear hfz110_1
            try clear hfz110_2
            try clear hfz112_0
            try clear hfz112_1
            try clear hfz112_2
            try clear hfz116_0
            try clear hfz116_1
            try clear hfz116_2
            try clear hfz125_0
            try clear hfz125_1
            try clear hfz125_2
            try clear hfz133_0
            try clear hfz133_1
            try clear hfz133_2
            try clear hfz137_0
            try clear hfz137_1
            try clear hfz137_2
            try clear hfz143_0
            try clear hfz143_1
            try clear hfz143_2
            try clear hfz147_0
            try clear hfz147_1
            try clear hfz147_2
            try clear hfz16_0
            try clear hfz16_1
            try clear hfz16_2
            try clear hfz18_0
            try clear hfz18_1
            try clear hfz18_2
            try clear hfz24_0
            try clear hfz24_1
            try clear hfz24_2
            try clear hfz26_0
            try clear hfz26_1
            try clear hfz26_2
            try clear hfz31_0
            try clear hfz31_1
            try clear hfz31_2
            try clear hfz38_0
            try clear hfz38_1
            try clear hfz38_2
            try clear hfz45_0
            try clear hfz45_1
            try clear hfz45_2
            try clear hfz48_0
            try clear hfz48_1
            try clear hfz48_2
            try clear hfz53_0
            try clear hfz53_1
            try clear hfz53_2
            try clear hfz56_0
            try clear hfz56_1
            try clear hfz56_2
            try clear hfz71_0
            try clear hfz71_1
            try clear hfz71_2
            try clear hfz79_0
            try clear hfz79_1
            try clear hfz79_2
            try clear hfz82_0
            try clear hfz82_1
            try clear hfz82_2
            try clear hfz87_0
            try clear hfz87_1
            try clear hfz87_2
            try clear hfz8_0
            try clear hfz8_1
            try clear hfz8_2
            try clear hfz90_0
            try clear hfz90_1
            try clear hfz90_2
            try clear hfz99_0
            try clear hfz99_1
            try clear hfz99_2
            try clear p2
            obtain ⟨kq, x102_105, rfl, HA, HJ105, HO_820002, HO_826002, HO_833002, HO_858002, BK806, BK819, BK825, BK832, BK857, HB⟩ := hcut
            have hl833002_105 := (Kd.R_reads' HO_833002.out).1
            rw [hl833002_105] at HO_833002
            (try simp only [hl833002_105])
            (try simp only [hl833002_105] at BK806)
            (try simp only [hl833002_105] at BK819)
            (try simp only [hl833002_105] at BK825)
            (try simp only [hl833002_105] at BK832)
            (try simp only [hl833002_105] at BK857)
            (try simp only [hl833002_105] at HO_820002)
            (try simp only [hl833002_105] at HO_826002)
            (try simp only [hl833002_105] at HO_858002)
            cases kq with
            | zero => exact absurd HA.out (by simp [laws_FnExactPaintPair.j2])
            | succ kj105 =>
             have H := HA.out
             clear HA
             simp only [laws_FnExactPaintPair.j2] at H
             by_cases c149 : x102_105 = true
             ·subst c149
              have H1 : (some false) = some r := by rw [if_pos rfl] at H; exact H
              clear H
              have H := H1
              clear H1
              obtain rfl := Option.some.inj H
              go_wp2
              go_ret
              exact ⟨by first | rfl | (simp [errW_none, errW_some] <;> rfl) | (simp [*, errW_none, errW_some] <;> rfl), by repeat (first | (with_reducible first | exact HB.out | apply below_alloc | apply pw_below_drewN | apply below_drew1 | refine below_set ?_ GE806.out | refine below_set ?_ GE819.out | refine below_set ?_ GE825.out | refine below_set ?_ GE832.out | refine below_set ?_ GE857.out) | exact HB.out)⟩
             ·replace c149 := Bool.eq_false_iff.mpr c149
              subst c149
              have H1 : ((laws_heldPainting.f kj105 t826 t827 t844 1).bind fun t859 => (if t859 < 0 then (some false) else (if t859 = t843 then (some true) else (some false)))) = some r := by rw [if_neg (show ¬ (false = true) by decide)] at H; exact H
              clear H
              have H := H1
              clear H1
              replace H := Option.bind_eq_some_iff.mp H
              obtain ⟨t859, A1500, H⟩ := H
              replace H : (if t859 < 0 then (some false) else (if t859 = t843 then (some true) else (some false))) = some r := H
              have A150 := Aside0.mk A1500
              clear A1500
              by_cases c151 : t859 < 0
              ·rw [if_pos c151] at H
               have c151b0 : decide (t859 < 0) = true := decide_eq_true c151
               clear c151
               obtain rfl := Option.some.inj H
               have hnb152 := NB832_806.out
               have hnc152 := NB806_832.out
               have hnb153 := NB832_819.out
               have hnc153 := NB819_832.out
               have hnb154 := NB832_825.out
               have hnc154 := NB825_832.out
               have hnb155 := NB832_857.out
               have hnc155 := NB857_832.out
               have hcz156_0 : wc.cell? ⟨gb832, 0, none⟩ = some (.int .i64 t826) := (blk_cell BK832.out 0).trans rfl
               have hcz156_1 : wc.cell? ⟨gb832, 1, none⟩ = some (.int .i64 t827) := (blk_cell BK832.out 1).trans rfl
               have hcz156_2 : wc.cell? ⟨gb832, 2, none⟩ = some (.slice Ao39 t844.length co39) := (blk_cell BK832.out 2).trans rfl
               have hfz156_0 := blk_frozen BK832.out 0
               have hfz156_1 := blk_frozen BK832.out 1
               have hfz156_2 := blk_frozen BK832.out 2
               go_wp2_with (first | ((with_reducible refine gate_callee (f := 46) rfl ?_); refine goesL_ (some 105) rfl rfl Try.func46 (by kernel_rfl) rfl #[.agg #[.int .i64 t826, .int .i64 t827, .slice Ao39 t844.length co39], .int .i64 1] rfl (by (try simp only [List.map_toArray, List.map_cons, List.map_nil]); first | done | rfl | (simp only [List.length_drop, List.length_take]; rfl)) ?_; (with_reducible refine (laws_heldPainting.calls kj105 t826 t827 _ _ t844 1 t859 _ ?side1 ?side2 A150.out).mono ?_); (case side1 => repeat (first | exact (Kd.R_reads' HO_833002.out).2.2 | (with_reducible refine Kd.C_alloc ?_ _) | (with_reducible refine Kd.C_drewN ?_ _) | (with_reducible refine Kd.C_drew ?_))); (case side2 => exact (Kd.R_reads' HO_833002.out).2.1); rintro e w157 ⟨rfl, hb⟩; refine ⟨_, rfl, ?_⟩; have n0_ := Aside0.mk (Kd.R_below (by (with_reducible repeat (first | apply Kd.R_alloc | apply Kd.R_drewN | apply Kd.R_drew)); exact HO_820002.out) hb); have n1_ := Aside0.mk (Kd.R_below (by (with_reducible repeat (first | apply Kd.R_alloc | apply Kd.R_drewN | apply Kd.R_drew)); exact HO_826002.out) hb); have n2_ := Aside0.mk (Kd.R_below (by (with_reducible repeat (first | apply Kd.R_alloc | apply Kd.R_drewN | apply Kd.R_drew)); exact HO_833002.out) hb); have n3_ := Aside0.mk (Kd.R_below (by (with_reducible repeat (first | apply Kd.R_alloc | apply Kd.R_drewN | apply Kd.R_drew)); exact HO_858002.out) hb); have n4_ := Aside0.mk (blk_below (g := gb806) (o := .cells #[.int .i64 a0_0, .int .i64 a0_1, .slice A0_2 l0_2.length c0_2] 57 (0, 0)) (by (with_reducible repeat (first | refine blk_drewN ?_ _ | refine blk_drew ?_ | refine blk_alloc ?_ _)); exact BK806.out) hb); have n5_ := Aside0.mk (blk_below (g := gb819) (o := .cells #[.int .i64 t813, .int .i64 t814, .slice Ao25 t815.length co25] 59 (0, 0)) (by (with_reducible repeat (first | refine blk_drewN ?_ _ | refine blk_drew ?_ | refine blk_alloc ?_ _)); exact BK819.out) hb); have n6_ := Aside0.mk (blk_below (g := gb825) (o := .cells #[.int .i64 t820, .int .i64 t821, .slice Ao32 t841.length co32] 59 (0, 0)) (by (with_reducible repeat (first | refine blk_drewN ?_ _ | refine blk_drew ?_ | refine blk_alloc ?_ _)); exact BK825.out) hb); have n7_ := Aside0.mk (blk_below (g := gb832) (o := .cells #[.int .i64 t826, .int .i64 t827, .slice Ao39 t844.length co39] 59 (0, 0)) (by (with_reducible repeat (first | refine blk_drewN ?_ _ | refine blk_drew ?_ | refine blk_alloc ?_ _)); exact BK832.out) hb); have n8_ := Aside0.mk (blk_below (g := gb857) (o := .cells #[.int .i64 t851, .int .i64 t852, .slice Ao126 t853.length co126] 59 (0, 0)) (by (with_reducible repeat (first | refine blk_drewN ?_ _ | refine blk_drew ?_ | refine blk_alloc ?_ _)); exact BK857.out) hb); have n9_ := Aside0.mk (below_step (by repeat (first | (with_reducible first | exact HB.out | apply below_alloc | apply pw_below_drewN | apply below_drew1 | refine below_set ?_ GE806.out | refine below_set ?_ GE819.out | refine below_set ?_ GE825.out | refine below_set ?_ GE832.out | refine below_set ?_ GE857.out) | exact HB.out)) hb); clear HO_820002; clear HO_826002; clear HO_833002; clear HO_858002; clear BK806; clear BK819; clear BK825; clear BK832; clear BK857; clear HB; have HO_820002 := n0_; have HO_826002 := n1_; have HO_833002 := n2_; have HO_858002 := n3_; have BK806 := n4_; have BK819 := n5_; have BK825 := n6_; have BK832 := n7_; have BK857 := n8_; have HB := n9_; clear n0_ n1_ n2_ n3_ n4_ n5_ n6_ n7_ n8_ n9_; (try clear hb); (try clear hb2); (try clear hk); (try clear hi)))
               go_ret
               exact ⟨by first | rfl | (simp [errW_none, errW_some] <;> rfl) | (simp [*, errW_none, errW_some] <;> rfl), by repeat (first | (with_reducible first | exact HB.out | apply below_alloc | apply pw_below_drewN | apply below_drew1 | refine below_set ?_ GE806.out | refine below_set ?_ GE819.out | refine below_set ?_ GE825.out | refine below_set ?_ GE832.out | refine below_set ?_ GE857.out) | exact HB.out)⟩
              ·rw [if_neg c151] at H
               have c151b0 : decide (t859 < 0) = false := decide_eq_false c151
               clear c151
               by_cases c158 : t859 = t843
               ·rw [if_pos c158] at H
                have c158b0 : (t859 == t843) = true := beq_iff_eq.mpr c158
                have c158b1 : (t859 != t843) = false := bne_eq_false_iff_eq.mpr c158
                clear c158
                obtain rfl := Option.some.inj H
                have hnb159 := NB832_806.out
                have hnc159 := NB806_832.out
                have hnb160 := NB832_819.out
                have hnc160 := NB819_832.out
                have hnb161 := NB832_825.out
                have hnc161 := NB825_832.out
                have hnb162 := NB832_857.out
                have hnc162 := NB857_832.out
                have hcz163_0 : wc.cell? ⟨gb832, 0, none⟩ = some (.int .i64 t826) := (blk_cell BK832.out 0).trans rfl
                have hcz163_1 : wc.cell? ⟨gb832, 1, none⟩ = some (.int .i64 t827) := (blk_cell BK832.out 1).trans rfl
                have hcz163_2 : wc.cell? ⟨gb832, 2, none⟩ = some (.slice Ao39 t844.length co39) := (blk_cell BK832.out 2).trans rfl
                have hfz163_0 := blk_frozen BK832.out 0
                have hfz163_1 := blk_frozen BK832.out 1
                have hfz163_2 := blk_frozen BK832.out 2
                go_wp2_with (first | ((with_reducible refine gate_callee (f := 46) rfl ?_); refine goesL_ (some 105) rfl rfl Try.func46 (by kernel_rfl) rfl #[.agg #[.int .i64 t826, .int .i64 t827, .slice Ao39 t844.length co39], .int .i64 1] rfl (by (try simp only [List.map_toArray, List.map_cons, List.map_nil]); first | done | rfl | (simp only [List.length_drop, List.length_take]; rfl)) ?_; (with_reducible refine (laws_heldPainting.calls kj105 t826 t827 _ _ t844 1 t859 _ ?side1 ?side2 A150.out).mono ?_); (case side1 => repeat (first | exact (Kd.R_reads' HO_833002.out).2.2 | (with_reducible refine Kd.C_alloc ?_ _) | (with_reducible refine Kd.C_drewN ?_ _) | (with_reducible refine Kd.C_drew ?_))); (case side2 => exact (Kd.R_reads' HO_833002.out).2.1); rintro e w164 ⟨rfl, hb⟩; refine ⟨_, rfl, ?_⟩; have n0_ := Aside0.mk (Kd.R_below (by (with_reducible repeat (first | apply Kd.R_alloc | apply Kd.R_drewN | apply Kd.R_drew)); exact HO_820002.out) hb); have n1_ := Aside0.mk (Kd.R_below (by (with_reducible repeat (first | apply Kd.R_alloc | apply Kd.R_drewN | apply Kd.R_drew)); exact HO_826002.out) hb); have n2_ := Aside0.mk (Kd.R_below (by (with_reducible repeat (first | apply Kd.R_alloc | apply Kd.R_drewN | apply Kd.R_drew)); exact HO_833002.out) hb); have n3_ := Aside0.mk (Kd.R_below (by (with_reducible repeat (first | apply Kd.R_alloc | apply Kd.R_drewN | apply Kd.R_drew)); exact HO_858002.out) hb); have n4_ := Aside0.mk (blk_below (g := gb806) (o := .cells #[.int .i64 a0_0, .int .i64 a0_1, .slice A0_2 l0_2.length c0_2] 57 (0, 0)) (by (with_reducible repeat (first | refine blk_drewN ?_ _ | refine blk_drew ?_ | refine blk_alloc ?_ _)); exact BK806.out) hb); have n5_ := Aside0.mk (blk_below (g := gb819) (o := .cells #[.int .i64 t813, .int .i64 t814, .slice Ao25 t815.length co25] 59 (0, 0)) (by (with_reducible repeat (first | refine blk_drewN ?_ _ | refine blk_drew ?_ | refine blk_alloc ?_ _)); exact BK819.out) hb); have n6_ := Aside0.mk (blk_below (g := gb825) (o := .cells #[.int .i64 t820, .int .i64 t821, .slice Ao32 t841.length co32] 59 (0, 0)) (by (with_reducible repeat (first | refine blk_drewN ?_ _ | refine blk_drew ?_ | refine blk_alloc ?_ _)); exact BK825.out) hb); have n7_ := Aside0.mk (blk_below (g := gb832) (o := .cells #[.int .i64 t826, .int .i64 t827, .slice Ao39 t844.length co39] 59 (0, 0)) (by (with_reducible repeat (first | refine blk_drewN ?_ _ | refine blk_drew ?_ | refine blk_alloc ?_ _)); exact BK832.out) hb); have n8_ := Aside0.mk (blk_below (g := gb857) (o := .cells #[.int .i64 t851, .int .i64 t852, .slice Ao126 t853.length co126] 59 (0, 0)) (by (with_reducible repeat (first | refine blk_drewN ?_ _ | refine blk_drew ?_ | refine blk_alloc ?_ _)); exact BK857.out) hb); have n9_ := Aside0.mk (below_step (by repeat (first | (with_reducible first | exact HB.out | apply below_alloc | apply pw_below_drewN | apply below_drew1 | refine below_set ?_ GE806.out | refine below_set ?_ GE819.out | refine below_set ?_ GE825.out | refine below_set ?_ GE832.out | refine below_set ?_ GE857.out) | exact HB.out)) hb); clear HO_820002; clear HO_826002; clear HO_833002; clear HO_858002; clear BK806; clear BK819; clear BK825; clear BK832; clear BK857; clear HB; have HO_820002 := n0_; have HO_826002 := n1_; have HO_833002 := n2_; have HO_858002 := n3_; have BK806 := n4_; have BK819 := n5_; have BK825 := n6_; have BK832 := n7_; have BK857 := n8_; have HB := n9_; clear n0_ n1_ n2_ n3_ n4_ n5_ n6_ n7_ n8_ n9_; (try clear hb); (try clear hb2); (try clear hk); (try clear hi)))
                go_ret
                exact ⟨by first | rfl | (simp [errW_none, errW_some] <;> rfl) | (simp [*, errW_none, errW_some] <;> rfl), by repeat (first | (with_reducible first | exact HB.out | apply below_alloc | apply pw_below_drewN | apply below_drew1 | refine below_set ?_ GE806.out | refine below_set ?_ GE819.out | refine below_set ?_ GE825.out | refine below_set ?_ GE832.out | refine below_set ?_ GE857.out) | exact HB.out)⟩
               ·rw [if_neg c158] at H
                have c158b0 : (t859 == t843) = false := beq_eq_false_iff_ne.mpr c158
                have c158b1 : (t859 != t843) = true := bne_iff_ne.mpr c158
                obtain rfl := Option.some.inj H
                have hnb165 := NB832_806.out
                have hnc165 := NB806_832.out
                have hnb166 := NB832_819.out
                have hnc166 := NB819_832.out
                have hnb167 := NB832_825.out
                have hnc167 := NB825_832.out
                have hnb168 := NB832_857.out
                have hnc168 := NB857_832.out
                have hcz169_0 : wc.cell? ⟨gb832, 0, none⟩ = some (.int .i64 t826) := (blk_cell BK832.out 0).trans rfl
                have hcz169_1 : wc.cell? ⟨gb832, 1, none⟩ = some (.int .i64 t827) := (blk_cell BK832.out 1).trans rfl
                have hcz169_2 : wc.cell? ⟨gb832, 2, none⟩ = some (.slice Ao39 t844.length co39) := (blk_cell BK832.out 2).trans rfl
                have hfz169_0 := blk_frozen BK832.out 0
                have hfz169_1 := blk_frozen BK832.out 1
                have hfz169_2 := blk_frozen BK832.out 2
                go_wp2_with (first | ((with_reducible refine gate_callee (f := 46) rfl ?_); refine goesL_ (some 105) rfl rfl Try.func46 (by kernel_rfl) rfl #[.agg #[.int .i64 t826, .int .i64 t827, .slice Ao39 t844.length co39], .int .i64 1] rfl (by (try simp only [List.map_toArray, List.map_cons, List.map_nil]); first | done | rfl | (simp only [List.length_drop, List.length_take]; rfl)) ?_; (with_reducible refine (laws_heldPainting.calls kj105 t826 t827 _ _ t844 1 t859 _ ?side1 ?side2 A150.out).mono ?_); (case side1 => repeat (first | exact (Kd.R_reads' HO_833002.out).2.2 | (with_reducible refine Kd.C_alloc ?_ _) | (with_reducible refine Kd.C_drewN ?_ _) | (with_reducible refine Kd.C_drew ?_))); (case side2 => exact (Kd.R_reads' HO_833002.out).2.1); rintro e w170 ⟨rfl, hb⟩; refine ⟨_, rfl, ?_⟩; have n0_ := Aside0.mk (Kd.R_below (by (with_reducible repeat (first | apply Kd.R_alloc | apply Kd.R_drewN | apply Kd.R_drew)); exact HO_820002.out) hb); have n1_ := Aside0.mk (Kd.R_below (by (with_reducible repeat (first | apply Kd.R_alloc | apply Kd.R_drewN | apply Kd.R_drew)); exact HO_826002.out) hb); have n2_ := Aside0.mk (Kd.R_below (by (with_reducible repeat (first | apply Kd.R_alloc | apply Kd.R_drewN | apply Kd.R_drew)); exact HO_833002.out) hb); have n3_ := Aside0.mk (Kd.R_below (by (with_reducible repeat (first | apply Kd.R_alloc | apply Kd.R_drewN | apply Kd.R_drew)); exact HO_858002.out) hb); have n4_ := Aside0.mk (blk_below (g := gb806) (o := .cells #[.int .i64 a0_0, .int .i64 a0_1, .slice A0_2 l0_2.length c0_2] 57 (0, 0)) (by (with_reducible repeat (first | refine blk_drewN ?_ _ | refine blk_drew ?_ | refine blk_alloc ?_ _)); exact BK806.out) hb); have n5_ := Aside0.mk (blk_below (g := gb819) (o := .cells #[.int .i64 t813, .int .i64 t814, .slice Ao25 t815.length co25] 59 (0, 0)) (by (with_reducible repeat (first | refine blk_drewN ?_ _ | refine blk_drew ?_ | refine blk_alloc ?_ _)); exact BK819.out) hb); have n6_ := Aside0.mk (blk_below (g := gb825) (o := .cells #[.int .i64 t820, .int .i64 t821, .slice Ao32 t841.length co32] 59 (0, 0)) (by (with_reducible repeat (first | refine blk_drewN ?_ _ | refine blk_drew ?_ | refine blk_alloc ?_ _)); exact BK825.out) hb); have n7_ := Aside0.mk (blk_below (g := gb832) (o := .cells #[.int .i64 t826, .int .i64 t827, .slice Ao39 t844.length co39] 59 (0, 0)) (by (with_reducible repeat (first | refine blk_drewN ?_ _ | refine blk_drew ?_ | refine blk_alloc ?_ _)); exact BK832.out) hb); have n8_ := Aside0.mk (blk_below (g := gb857) (o := .cells #[.int .i64 t851, .int .i64 t852, .slice Ao126 t853.length co126] 59 (0, 0)) (by (with_reducible repeat (first | refine blk_drewN ?_ _ | refine blk_drew ?_ | refine blk_alloc ?_ _)); exact BK857.out) hb); have n9_ := Aside0.mk (below_step (by repeat (first | (with_reducible first | exact HB.out | apply below_alloc | apply pw_below_drewN | apply below_drew1 | refine below_set ?_ GE806.out | refine below_set ?_ GE819.out | refine below_set ?_ GE825.out | refine below_set ?_ GE832.out | refine below_set ?_ GE857.out) | exact HB.out)) hb); clear HO_820002; clear HO_826002; clear HO_833002; clear HO_858002; clear BK806; clear BK819; clear BK825; clear BK832; clear BK857; clear HB; have HO_820002 := n0_; have HO_826002 := n1_; have HO_833002 := n2_; have HO_858002 := n3_; have BK806 := n4_; have BK819 := n5_; have BK825 := n6_; have BK832 := n7_; have BK857 := n8_; have HB := n9_; clear n0_ n1_ n2_ n3_ n4_ n5_ n6_ n7_ n8_ n9_; (try clear hb); (try clear hb2); (try clear hk); (try clear hi)))
                go_ret
                exact ⟨by first | rfl | (simp [errW_none, errW_some] <;> rfl) | (simp [*, errW_none, errW_some] <;> rfl), by repeat (first | (with_reducible first | exact HB.out | apply below_alloc | apply pw_below_drewN | apply below_drew1 | refine below_set ?_ GE806.out | refine below_set ?_ GE819.out | refine below_set ?_ GE825.out | refine below_set ?_ GE832.out | refine below_set ?_ GE857.out) | exact HB.out)⟩
          ·rw [if_neg c103] at H
           have c103b0 : (t845 == t843) = false := beq_eq_false_iff_ne.mpr c103
           have c103b1 : (t845 != t843) = true := bne_iff_ne.mpr c103
           obtain rfl := Option.some.inj H
           have hnb171 := NB832_806.out
           have hnc171 := NB806_832.out
           have hnb172 := NB832_819.out
           have hnc172 := NB819_832.out
           have hnb173 := NB832_825.out
           have hnc173 := NB825_832.out
           have hcz174_0 : wc.cell? ⟨gb832, 0, none⟩ = some (.int .i64 t826) := (blk_cell BK832.out 0).trans rfl
           have hcz174_1 : wc.cell? ⟨gb832, 1, none⟩ = some (.int .i64 t827) := (blk_cell BK832.out 1).trans rfl
           have hcz174_2 : wc.cell? ⟨gb832, 2, none⟩ = some (.slice Ao39 t828.length co39) := (blk_cell BK832.out 2).trans rfl
           have hfz174_0 := blk_frozen BK832.out 0
           have hfz174_1 := blk_frozen BK832.out 1
           have hfz174_2 := blk_frozen BK832.out 2
           go_wp2_with (first | ((with_reducible refine gate_callee (f := 45) rfl ?_); refine goesL_ (some 76) rfl rfl Try.func45 (by kernel_rfl) rfl #[.agg #[.int .i64 t826, .int .i64 t827, .slice Ao39 t828.length co39], .int .i64 1] rfl (by (try simp only [List.map_toArray, List.map_cons, List.map_nil]); first | done | rfl | (simp only [List.length_drop, List.length_take]; rfl)) ?_; (with_reducible refine (laws_markPainting.calls kj62 t826 t827 (fun k_ => some k_ = (.slice Ao39 t828.length co39 : Value).ownBlock) (.slice Ao39 t828.length co39) t828 1 t843 t844 w _ ?side1 ?side2 A93.out).mono ?_); (case side1 => repeat (first | (with_reducible first | exact HB.out | apply below_alloc | apply pw_below_drewN | apply below_drew1 | refine below_set ?_ GE806.out | refine below_set ?_ GE819.out | refine below_set ?_ GE825.out | refine below_set ?_ GE832.out) | exact HB.out)); (case side2 => exact Kd.R_tight rfl HO_833002.out); rintro e w175 ⟨rfl, hy0, hb, hkp⟩; refine ⟨_, rfl, ?_⟩; have n0_ := Aside0.mk (Kd.R_mono (ok' := fun k_ => some k_ ≠ (.slice Ao32 t841.length co32 : Value).ownBlock ∧ some k_ ≠ (.slice Ao39 t828.length co39 : Value).ownBlock) (Kd.R_keptB (HO_820002.out) hkp (fun k_ hk_ hs_ => (hk_.2) hs_)) (fun k_ hk_ => ⟨hk_.1.1, hk_.1.2⟩)); have n1_ := Aside0.mk (Kd.R_mono (ok' := fun k_ => some k_ ≠ (.slice Ao25 t815.length co25 : Value).ownBlock ∧ some k_ ≠ (.slice Ao39 t828.length co39 : Value).ownBlock) (Kd.R_keptB (HO_826002.out) hkp (fun k_ hk_ hs_ => (hk_.2) hs_)) (fun k_ hk_ => ⟨hk_.1.1, hk_.1.2⟩)); have n2_ := Aside0.mk (Kd.R_reok rfl hy0 (fun k_ e_ => HO_833002.out.1 k_ e_)); have n3_ := Aside0.mk (blk_kept (by (with_reducible repeat (first | refine blk_drewN ?_ _ | refine blk_drew ?_ | refine blk_alloc ?_ _)); exact BK806.out) hkp (fun hs_ => (fun e_ => (Kd.R_ne HO_833002.out BK806.out (by decide)) e_) hs_)); have n4_ := Aside0.mk (blk_kept (by (with_reducible repeat (first | refine blk_drewN ?_ _ | refine blk_drew ?_ | refine blk_alloc ?_ _)); exact BK819.out) hkp (fun hs_ => (fun e_ => (Kd.R_ne HO_833002.out BK819.out (by decide)) e_) hs_)); have n5_ := Aside0.mk (blk_kept (by (with_reducible repeat (first | refine blk_drewN ?_ _ | refine blk_drew ?_ | refine blk_alloc ?_ _)); exact BK825.out) hkp (fun hs_ => (fun e_ => (Kd.R_ne HO_833002.out BK825.out (by decide)) e_) hs_)); have n6_ := Aside0.mk (blk_kept (by (with_reducible repeat (first | refine blk_drewN ?_ _ | refine blk_drew ?_ | refine blk_alloc ?_ _)); exact BK832.out) hkp (fun hs_ => (fun e_ => (Kd.R_ne HO_833002.out BK832.out (by decide)) e_) hs_)); have n7_ := Aside0.mk (hb); clear HO_820002; clear HO_826002; clear HO_833002; clear BK806; clear BK819; clear BK825; clear BK832; clear HB; have HO_820002 := n0_; have HO_826002 := n1_; have HO_833002 := n2_; have BK806 := n3_; have BK819 := n4_; have BK825 := n5_; have BK832 := n6_; have HB := n7_; clear n0_ n1_ n2_ n3_ n4_ n5_ n6_ n7_; (try clear hb); (try clear hkp); (try clear hy0); have hcz176_0 : w175.cell? ⟨gb832, 0, none⟩ = some (.int .i64 t826) := (blk_cell BK832.out 0).trans rfl; have hcz176_1 : w175.cell? ⟨gb832, 1, none⟩ = some (.int .i64 t827) := (blk_cell BK832.out 1).trans rfl; have hcz176_2 : w175.cell? ⟨gb832, 2, none⟩ = some (.slice Ao39 t828.length co39) := (blk_cell BK832.out 2).trans rfl; have hfz176_0 := blk_frozen BK832.out 0; have hfz176_1 := blk_frozen BK832.out 1; have hfz176_2 := blk_frozen BK832.out 2) | ((with_reducible refine gate_callee (f := 46) rfl ?_); refine goesL_ (some 79) rfl rfl Try.func46 (by kernel_rfl) rfl #[.agg #[.int .i64 t826, .int .i64 t827, .slice Ao39 t844.length co39], .int .i64 1] rfl (by (try simp only [List.map_toArray, List.map_cons, List.map_nil]); first | done | (rw [show t844.length = t828.length from (Kd.R_reads' HO_833002.out).1.symm] <;> rfl) | rfl | (simp only [List.length_drop, List.length_take]; rfl)) ?_; (with_reducible refine (laws_heldPainting.calls kj62 t826 t827 _ _ t844 1 t845 _ ?side1 ?side2 A94.out).mono ?_); (case side1 => repeat (first | exact (Kd.R_reads' HO_833002.out).2.2 | (with_reducible refine Kd.C_alloc ?_ _) | (with_reducible refine Kd.C_drewN ?_ _) | (with_reducible refine Kd.C_drew ?_))); (case side2 => rw [show t844.length = t828.length from (Kd.R_reads' HO_833002.out).1.symm]; exact (Kd.R_reads' HO_833002.out).2.1); rintro e w177 ⟨rfl, hb⟩; refine ⟨_, rfl, ?_⟩; have n0_ := Aside0.mk (Kd.R_below (by (with_reducible repeat (first | apply Kd.R_alloc | apply Kd.R_drewN | apply Kd.R_drew)); exact HO_820002.out) hb); have n1_ := Aside0.mk (Kd.R_below (by (with_reducible repeat (first | apply Kd.R_alloc | apply Kd.R_drewN | apply Kd.R_drew)); exact HO_826002.out) hb); have n2_ := Aside0.mk (Kd.R_below (by (with_reducible repeat (first | apply Kd.R_alloc | apply Kd.R_drewN | apply Kd.R_drew)); exact HO_833002.out) hb); have n3_ := Aside0.mk (blk_below (g := gb806) (o := .cells #[.int .i64 a0_0, .int .i64 a0_1, .slice A0_2 l0_2.length c0_2] 57 (0, 0)) (by (with_reducible repeat (first | refine blk_drewN ?_ _ | refine blk_drew ?_ | refine blk_alloc ?_ _)); exact BK806.out) hb); have n4_ := Aside0.mk (blk_below (g := gb819) (o := .cells #[.int .i64 t813, .int .i64 t814, .slice Ao25 t815.length co25] 59 (0, 0)) (by (with_reducible repeat (first | refine blk_drewN ?_ _ | refine blk_drew ?_ | refine blk_alloc ?_ _)); exact BK819.out) hb); have n5_ := Aside0.mk (blk_below (g := gb825) (o := .cells #[.int .i64 t820, .int .i64 t821, .slice Ao32 t841.length co32] 59 (0, 0)) (by (with_reducible repeat (first | refine blk_drewN ?_ _ | refine blk_drew ?_ | refine blk_alloc ?_ _)); exact BK825.out) hb); have n6_ := Aside0.mk (blk_below (g := gb832) (o := .cells #[.int .i64 t826, .int .i64 t827, .slice Ao39 t828.length co39] 59 (0, 0)) (by (with_reducible repeat (first | refine blk_drewN ?_ _ | refine blk_drew ?_ | refine blk_alloc ?_ _)); exact BK832.out) hb); have n7_ := Aside0.mk (below_step (by repeat (first | (with_reducible first | exact HB.out | apply below_alloc | apply pw_below_drewN | apply below_drew1 | refine below_set ?_ GE806.out | refine below_set ?_ GE819.out | refine below_set ?_ GE825.out | refine below_set ?_ GE832.out) | exact HB.out)) hb); clear HO_820002; clear HO_826002; clear HO_833002; clear BK806; clear BK819; clear BK825; clear BK832; clear HB; have HO_820002 := n0_; have HO_826002 := n1_; have HO_833002 := n2_; have BK806 := n3_; have BK819 := n4_; have BK825 := n5_; have BK832 := n6_; have HB := n7_; clear n0_ n1_ n2_ n3_ n4_ n5_ n6_ n7_; (try clear hb); (try clear hb2); (try clear hk); (try clear hi)))
           go_ret
           exact ⟨by first | rfl | (simp [errW_none, errW_some] <;> rfl) | (simp [*, errW_none, errW_some] <;> rfl), by repeat (first | (with_reducible first | exact HB.out | apply below_alloc | apply pw_below_drewN | apply below_drew1 | refine below_set ?_ GE806.out | refine below_set ?_ GE819.out | refine below_set ?_ GE825.out | refine below_set ?_ GE832.out) | exact HB.out)⟩
     ·replace c61 := Bool.eq_false_iff.mpr c61
      subst c61
      have H1 : (some false) = some r := by rw [if_neg (show ¬ (false = true) by decide)] at H; exact H
      clear H
      have H := H1
      clear H1
      obtain rfl := Option.some.inj H
      try go_wp2
      have n0_ := Aside0.mk (Kd.R_drew HO_820002.out)
      have n1_ := Aside0.mk (Kd.R_drew HO_826002.out)
      have n2_ := Aside0.mk (Kd.R_drew HO_833002.out)
      have n3_ := Aside0.mk (blk_drew BK806.out)
      have n4_ := Aside0.mk (blk_drew BK819.out)
      have n5_ := Aside0.mk (blk_drew BK825.out)
      have n6_ := Aside0.mk (blk_drew BK832.out)
      have n7_ := Aside0.mk (below_drew1 HB.out)
      clear HO_820002
      clear HO_826002
      clear HO_833002
      clear BK806
      clear BK819
      clear BK825
      clear BK832
      clear HB
      have HO_820002 := n0_
      have HO_826002 := n1_
      have HO_833002 := n2_
      have BK806 := n3_
      have BK819 := n4_
      have BK825 := n5_
      have BK832 := n6_
      have HB := n7_
      clear n0_ n1_ n2_ n3_ n4_ n5_ n6_ n7_
      refine start_ (n := 5) (S := fun w' => w'.cell? ⟨gb825, 0, none⟩ = some (.int .i64 t820) ∧ w'.cell? ⟨gb825, 1, none⟩ = some (.int .i64 t821) ∧ w'.cell? ⟨gb825, 2, none⟩ = some (.slice Ao32 t822.length co32) ∧ w'.cell? ⟨gb806, 0, none⟩ = some (.int .i64 a0_0) ∧ w'.cell? ⟨gb806, 1, none⟩ = some (.int .i64 a0_1) ∧ w'.cell? ⟨gb806, 2, none⟩ = some (.slice A0_2 l0_2.length c0_2)) (ds := []) #[false, false, false, false, false] (by kernel_rfl) rfl rfl ⟨(blk_cell BK825.out 0).trans rfl, (blk_cell BK825.out 1).trans rfl, (blk_cell BK825.out 2).trans rfl, (blk_cell BK806.out 0).trans rfl, (blk_cell BK806.out 1).trans rfl, (blk_cell BK806.out 2).trans rfl⟩ (fun hHeld => ?_)
      generalize wc.drew = w178 at HO_820002 HO_826002 HO_833002 BK806 BK819 BK825 BK832 HB hHeld ⊢
      refine take_ (i := 0) (N := some 53) (v := ?_) (a' := ?_) #[true, false, false, false, false] rfl rfl (by kernel_rfl) (fun _ _ _ h => h) (Or.inl ⟨by rfl, ?_⟩) hHeld ?_ ?_
      rotate_left
      ·rintro w' ⟨s0, s1, s2, s3, s4, s5⟩
       go_simp
       with_reducible rfl
      rotate_left
      ·simp only [Act.put, List.setIfInBounds_toArray, List.set_cons_zero, List.set_cons_succ, i64_w, i32_w]
       rfl
      refine take_ (i := 1) (N := some 54) (v := ?_) (a' := ?_) #[true, true, false, false, false] rfl rfl (by kernel_rfl) (fun _ _ _ h => h) (Or.inl ⟨by rfl, ?_⟩) hHeld ?_ ?_
      rotate_left
      ·rintro w' ⟨s0, s1, s2, s3, s4, s5⟩
       go_simp
       with_reducible rfl
      rotate_left
      ·simp only [Act.put, List.setIfInBounds_toArray, List.set_cons_zero, List.set_cons_succ, i64_w, i32_w]
       rfl
      refine one_ (i := 2) (N := some 55) #[true, true, true, false, false] rfl rfl (by kernel_rfl) (by decide) (fun K hK => ?_)
      refine goes_ Try.func42 (by kernel_rfl) rfl #[.agg #[.int .i64 a0_0, .int .i64 a0_1, .slice A0_2 l0_2.length c0_2]] (by rfl) rfl rfl (by (try simp only [List.map_toArray, List.map_cons, List.map_nil]); first | done | rfl | (simp only [List.length_drop, List.length_take]; rfl)) ?_
      with_reducible refine (laws_toPainting.calls kj13 a0_0 a0_1 _ _ l0_2 t834 t835 t836 _ ?side1 ?side2 A59.out).mono ?_
      (case side1 => repeat (first | exact (Kd.C_below HR0_2.out HB.out) | (with_reducible refine Kd.C_alloc ?_ _) | (with_reducible refine Kd.C_drewN ?_ _) | (with_reducible refine Kd.C_drew ?_)))
      (case side2 => exact HC0_2.out)
      rintro e w179 ⟨v837, rfl, ho0, hb⟩
      refine ⟨_, rfl, ?_⟩
      have n0_ := Aside0.mk (Kd.R_elder' (by (with_reducible repeat (first | apply Kd.R_alloc | apply Kd.R_drewN | apply Kd.R_drew)); exact HO_820002.out) (Kd.R_base ho0) hb)
      have n1_ := Aside0.mk (Kd.R_elder' (by (with_reducible repeat (first | apply Kd.R_alloc | apply Kd.R_drewN | apply Kd.R_drew)); exact HO_826002.out) (Kd.R_base ho0) hb)
      have n2_ := Aside0.mk (Kd.R_elder' (by (with_reducible repeat (first | apply Kd.R_alloc | apply Kd.R_drewN | apply Kd.R_drew)); exact HO_833002.out) (Kd.R_base ho0) hb)
      have n3_ := Aside0.mk (Kd.R_lower (Kd.R_new' (Kd.R_new' (Kd.R_new' ho0 (Kd.R_lt (by (with_reducible repeat (first | apply Kd.R_alloc | apply Kd.R_drewN | apply Kd.R_drew)); exact HO_820002.out))) (Kd.R_lt (by (with_reducible repeat (first | apply Kd.R_alloc | apply Kd.R_drewN | apply Kd.R_drew)); exact HO_826002.out))) (Kd.R_lt (by (with_reducible repeat (first | apply Kd.R_alloc | apply Kd.R_drewN | apply Kd.R_drew)); exact HO_833002.out))) (below_size (by repeat (first | (with_reducible first | exact HB.out | apply below_alloc | apply pw_below_drewN | apply below_drew1 | refine below_set ?_ GE806.out | refine below_set ?_ GE819.out | refine below_set ?_ GE825.out | refine below_set ?_ GE832.out) | exact HB.out))))
      have n4_ := Aside0.mk (blk_below (g := gb806) (o := .cells #[.int .i64 a0_0, .int .i64 a0_1, .slice A0_2 l0_2.length c0_2] 57 (0, 0)) (by (with_reducible repeat (first | refine blk_drewN ?_ _ | refine blk_drew ?_ | refine blk_alloc ?_ _)); exact BK806.out) hb)
      have n5_ := Aside0.mk (blk_below (g := gb819) (o := .cells #[.int .i64 t813, .int .i64 t814, .slice Ao25 t815.length co25] 59 (0, 0)) (by (with_reducible repeat (first | refine blk_drewN ?_ _ | refine blk_drew ?_ | refine blk_alloc ?_ _)); exact BK819.out) hb)
      have n6_ := Aside0.mk (blk_below (g := gb825) (o := .cells #[.int .i64 t820, .int .i64 t821, .slice Ao32 t822.length co32] 59 (0, 0)) (by (with_reducible repeat (first | refine blk_drewN ?_ _ | refine blk_drew ?_ | refine blk_alloc ?_ _)); exact BK825.out) hb)
      have n7_ := Aside0.mk (blk_below (g := gb832) (o := .cells #[.int .i64 t826, .int .i64 t827, .slice Ao39 t828.length co39] 59 (0, 0)) (by (with_reducible repeat (first | refine blk_drewN ?_ _ | refine blk_drew ?_ | refine blk_alloc ?_ _)); exact BK832.out) hb)
      have n8_ := Aside0.mk (below_step (by repeat (first | (with_reducible first | exact HB.out | apply below_alloc | apply pw_below_drewN | apply below_drew1 | refine below_set ?_ GE806.out | refine below_set ?_ GE819.out | refine below_set ?_ GE825.out | refine below_set ?_ GE832.out) | exact HB.out)) hb)
      clear HO_820002
      clear HO_826002
      clear HO_833002
      clear BK806
      clear BK819
      clear BK825
      clear BK832
      clear HB
      have HO_820002 := n0_
      have HO_826002 := n1_
      have HO_833002 := n2_
      have HO838 := n3_
      have BK806 := n4_
      have BK819 := n5_
      have BK825 := n6_
      have BK832 := n7_
      have HB := n8_
      clear n0_ n1_ n2_ n3_ n4_ n5_ n6_ n7_ n8_
      (try clear hb)
      (try clear hb2)
      (try clear hk)
      (try clear hi)
      (try clear ho0)
      obtain ⟨Ao180, co180, eo180⟩ := Kd.R_slice HO838.out
      (first | subst eo180 | (injection eo180 with f1_ f2_ f3_; have f4_ := f1_.symm; have f5_ := f3_.symm; clear f1_ f2_ f3_; subst f4_; subst f5_))
      refine hK.out _ _ ⟨(blk_cell BK825.out 0).trans rfl, (blk_cell BK825.out 1).trans rfl, (blk_cell BK825.out 2).trans rfl, (blk_cell BK806.out 0).trans rfl, (blk_cell BK806.out 1).trans rfl, (blk_cell BK806.out 2).trans rfl⟩ (fun hHeld => ?_)
      clear hK K
      refine norm_ (a' := ?_) ?_ ?_
      rotate_left
      ·show Act.put _ (some 55) _ = _
       simp only [Act.put, List.setIfInBounds_toArray, List.set_cons_zero, List.set_cons_succ, i64_w, i32_w]
       rfl
      refine one_ (i := 3) (N := some 56) #[true, true, true, true, false] rfl rfl (by kernel_rfl) (by decide) (fun K hK => ?_)
      refine goes_ Try.func44 (by kernel_rfl) rfl #[.agg #[.int .i64 t820, .int .i64 t821, .slice Ao32 t822.length co32], .agg #[.int .i64 t834, .int .i64 t835, .slice Ao180 t836.length co180]] (by rfl) rfl rfl (by (try simp only [List.map_toArray, List.map_cons, List.map_nil]); first | done | rfl | (simp only [List.length_drop, List.length_take]; rfl)) ?_
      with_reducible refine (laws_eqPainting.calls kj13 t820 t821 _ _ t822 t834 t835 _ _ t836 false _ ?side1 ?side2 ?side3 ?side4 A60.out).mono ?_
      (case side1 => repeat (first | exact (Kd.R_reads' HO_826002.out).2.2 | (with_reducible refine Kd.C_alloc ?_ _) | (with_reducible refine Kd.C_drewN ?_ _) | (with_reducible refine Kd.C_drew ?_)))
      (case side2 => exact (Kd.R_reads' HO_826002.out).2.1)
      (case side3 => repeat (first | exact (Kd.R_reads' HO838.out).2.2 | (with_reducible refine Kd.C_alloc ?_ _) | (with_reducible refine Kd.C_drewN ?_ _) | (with_reducible refine Kd.C_drew ?_)))
      (case side4 => exact (Kd.R_reads' HO838.out).2.1)
      rintro e w181 ⟨rfl, hb⟩
      refine ⟨_, rfl, ?_⟩
      have n0_ := Aside0.mk (Kd.R_below (by (with_reducible repeat (first | apply Kd.R_alloc | apply Kd.R_drewN | apply Kd.R_drew)); exact HO_820002.out) hb)
      have n1_ := Aside0.mk (Kd.R_below (by (with_reducible repeat (first | apply Kd.R_alloc | apply Kd.R_drewN | apply Kd.R_drew)); exact HO_826002.out) hb)
      have n2_ := Aside0.mk (Kd.R_below (by (with_reducible repeat (first | apply Kd.R_alloc | apply Kd.R_drewN | apply Kd.R_drew)); exact HO_833002.out) hb)
      have n3_ := Aside0.mk (Kd.R_below (by (with_reducible repeat (first | apply Kd.R_alloc | apply Kd.R_drewN | apply Kd.R_drew)); exact HO838.out) hb)
      have n4_ := Aside0.mk (blk_below (g := gb806) (o := .cells #[.int .i64 a0_0, .int .i64 a0_1, .slice A0_2 l0_2.length c0_2] 57 (0, 0)) (by (with_reducible repeat (first | refine blk_drewN ?_ _ | refine blk_drew ?_ | refine blk_alloc ?_ _)); exact BK806.out) hb)
      have n5_ := Aside0.mk (blk_below (g := gb819) (o := .cells #[.int .i64 t813, .int .i64 t814, .slice Ao25 t815.length co25] 59 (0, 0)) (by (with_reducible repeat (first | refine blk_drewN ?_ _ | refine blk_drew ?_ | refine blk_alloc ?_ _)); exact BK819.out) hb)
      have n6_ := Aside0.mk (blk_below (g := gb825) (o := .cells #[.int .i64 t820, .int .i64 t821, .slice Ao32 t822.length co32] 59 (0, 0)) (by (with_reducible repeat (first | refine blk_drewN ?_ _ | refine blk_drew ?_ | refine blk_alloc ?_ _)); exact BK825.out) hb)
      have n7_ := Aside0.mk (blk_below (g := gb832) (o := .cells #[.int .i64 t826, .int .i64 t827, .slice Ao39 t828.length co39] 59 (0, 0)) (by (with_reducible repeat (first | refine blk_drewN ?_ _ | refine blk_drew ?_ | refine blk_alloc ?_ _)); exact BK832.out) hb)
      have n8_ := Aside0.mk (below_step (by repeat (first | (with_reducible first | exact HB.out | apply below_alloc | apply pw_below_drewN | apply below_drew1 | refine below_set ?_ GE806.out | refine below_set ?_ GE819.out | refine below_set ?_ GE825.out | refine below_set ?_ GE832.out) | exact HB.out)) hb)
      clear HO_820002
      clear HO_826002
      clear HO_833002
      clear HO838
      clear BK806
      clear BK819
      clear BK825
      clear BK832
      clear HB
      have HO_820002 := n0_
      have HO_826002 := n1_
      have HO_833002 := n2_
      have HO838 := n3_
      have BK806 := n4_
      have BK819 := n5_
      have BK825 := n6_
      have BK832 := n7_
      have HB := n8_
      clear n0_ n1_ n2_ n3_ n4_ n5_ n6_ n7_ n8_
      (try clear hb)
      (try clear hb2)
      (try clear hk)
      (try clear hi)
      refine hK.out _ _ ⟨(blk_cell BK825.out 0).trans rfl, (blk_cell BK825.out 1).trans rfl, (blk_cell BK825.out 2).trans rfl, (blk_cell BK806.out 0).trans rfl, (blk_cell BK806.out 1).trans rfl, (blk_cell BK806.out 2).trans rfl⟩ (fun hHeld => ?_)
      clear hK K
      refine norm_ (a' := ?_) ?_ ?_
      rotate_left
      ·show Act.put _ (some 56) _ = _
       simp only [Act.put, List.setIfInBounds_toArray, List.set_cons_zero, List.set_cons_succ, i64_w, i32_w]
       rfl
      refine pure_ (i := 4) (N := some 57) (v := ?_) (a' := ?_) #[true, true, true, true, true] rfl rfl (by kernel_rfl) (fun _ _ _ h => h) (Or.inl ⟨by rfl, ?_⟩) ?_ ?_
      rotate_left
      ·intro w'
       go_simp
       with_reducible rfl
      rotate_left
      ·simp only [Act.put, List.setIfInBounds_toArray, List.set_cons_zero, List.set_cons_succ, i64_w, i32_w]
       rfl
      refine done_ (by kernel_rfl) ?_
      try go_wp2
      go_ret
      exact ⟨by first | rfl | (simp [errW_none, errW_some] <;> rfl) | (simp [*, errW_none, errW_some] <;> rfl), by repeat (first | (with_reducible first | exact HB.out | apply below_alloc | apply pw_below_drewN | apply below_drew1 | refine below_set ?_ GE806.out | refine below_set ?_ GE819.out | refine below_set ?_ GE825.out | refine below_set ?_ GE832.out) | exact HB.out)⟩

end Go.Proofs.Ytlacnnnmeolomaa.Q
