-- Written by wip/tools/gprint.py (the kit's print, with contracts of this session): Lean checks it.
import Derived.Test.YtipblaifgpnebaaQ0
import Derived.Test.YtipblaifgpnebaaQ29
import Derived.Test.YtipblaifgpnebaaQ68
import Derived.Test.YtipblaifgpnebaaQ70
import Derived.Test.YtipblaifgpnebaaQ82
import Derived.Test.YtipblaifgpnebaaQ86
namespace Go.Proofs.Ytipblaifgpnebaa.Q
open Go.RowKit Go.Proofs.YtipblaifgpnebaaW.PrintWords Go.Proofs.YtipblaifgpnebaaW.PrintLast Go.Proofs.YtipblaifgpnebaaW.PrintMore
attribute [local go_sem] max2_int min2_int max_two min_two max_three min_three max_four min_four   -- for this text's walks alone
set_option linter.unusedVariables false
set_option linter.unusedSimpArgs false

/-! ### laws_FnExactPairParty: function 9 -/
mutual
def laws_FnExactPairParty.j0 : Nat → Int → Bool → Bool → Int → List (S63) → Int → List (S63) → Option (Bool)
  | 0, _, _, _, _, _, _, _ => none
  | k + 1, x0, x4, x29, x738000, x738001, x744000, x744001 => if x29 = true then (some false) else ((laws_markParty.f k x744000 x744001 1).bind fun bt745 => ((laws_heldParty.f k x744000 bt745.2 1).bind fun t747 => (if t747 < 0 then (some false) else (if t747 = bt745.1 then ((impl_PairParty.f k x0).bind fun bt748 => ((laws_eqParty.f k bt748.1 bt748.2.1 x738000 x738001).bind fun t754 => (if t754 = true then (laws_FnExactPairParty.j1 k bt745.1 (bt748.2.2 != x4) x744000 bt745.2) else (laws_FnExactPairParty.j1 k bt745.1 true x744000 bt745.2)))) else (some false)))))
def laws_FnExactPairParty.j1 : Nat → Int → Bool → Int → List (S63) → Option (Bool)
  | 0, _, _, _, _ => none
  | k + 1, x7, x54, x744000, x744001 => if x54 = true then (some false) else ((laws_heldParty.f k x744000 x744001 1).bind fun t755 => (if t755 < 0 then (some false) else (if t755 = x7 then (some true) else (some false))))
end
def laws_FnExactPairParty.f (k : Nat) (a0 : Int) : Option (Bool) := (spec_PairParty.f k a0).bind fun bt732 => ((impl_PairParty.f k a0).bind fun bt738 => ((laws_eqParty.f k bt738.1 bt738.2.1 bt732.1 bt732.2.1).bind fun t744 => (if t744 = true then (laws_FnExactPairParty.j0 k a0 bt732.2.2 (bt738.2.2 != bt732.2.2) bt732.1 bt732.2.1 bt738.1 bt738.2.1) else (laws_FnExactPairParty.j0 k a0 bt732.2.2 true bt732.1 bt732.2.1 bt738.1 bt738.2.1))))
theorem laws_FnExactPairParty.mono_l : ∀ k, (∀ y0 y1 y2 y3 y4 y5 y6, LeO (laws_FnExactPairParty.j0 k y0 y1 y2 y3 y4 y5 y6) (laws_FnExactPairParty.j0 (k + 1) y0 y1 y2 y3 y4 y5 y6)) ∧ (∀ y0 y1 y2 y3, LeO (laws_FnExactPairParty.j1 k y0 y1 y2 y3) (laws_FnExactPairParty.j1 (k + 1) y0 y1 y2 y3))
  | 0 => ⟨fun _ _ _ _ _ _ _ r h => by simp [laws_FnExactPairParty.j0] at h, fun _ _ _ _ r h => by simp [laws_FnExactPairParty.j1] at h⟩
  | k + 1 => by
    obtain ⟨ih0, ih1⟩ := laws_FnExactPairParty.mono_l k
    refine ⟨?_, ?_⟩
    · intro y0 y1 y2 y3 y4 y5 y6
      unfold laws_FnExactPairParty.j0
      repeat' first
      | (with_reducible exact ih0 _ _ _ _ _ _ _)
      | (with_reducible exact ih1 _ _ _ _)
      | (with_reducible exact impl_PairParty.mono _ _)
      | (with_reducible exact laws_eqParty.mono _ _ _ _ _)
      | (with_reducible exact laws_heldParty.mono _ _ _ _)
      | (with_reducible exact laws_markParty.mono _ _ _ _)
      | (with_reducible exact spec_PairParty.mono _ _)
      | (with_reducible exact LeO.refl _)
      | (with_reducible exact LeO.none _)
      | (with_reducible refine LeO.ite ?_ ?_)
      | (with_reducible refine LeO.bind ?_ (fun _ => ?_))
      | exact ih0 _ _ _ _ _ _ _
      | exact ih1 _ _ _ _
      | exact impl_PairParty.mono _ _
      | exact laws_eqParty.mono _ _ _ _ _
      | exact laws_heldParty.mono _ _ _ _
      | exact laws_markParty.mono _ _ _ _
      | exact spec_PairParty.mono _ _
      | exact LeO.none _
      | refine LeO.ite ?_ ?_
      | refine LeO.bind ?_ (fun _ => ?_)
    · intro y0 y1 y2 y3
      unfold laws_FnExactPairParty.j1
      repeat' first
      | (with_reducible exact ih0 _ _ _ _ _ _ _)
      | (with_reducible exact ih1 _ _ _ _)
      | (with_reducible exact impl_PairParty.mono _ _)
      | (with_reducible exact laws_eqParty.mono _ _ _ _ _)
      | (with_reducible exact laws_heldParty.mono _ _ _ _)
      | (with_reducible exact laws_markParty.mono _ _ _ _)
      | (with_reducible exact spec_PairParty.mono _ _)
      | (with_reducible exact LeO.refl _)
      | (with_reducible exact LeO.none _)
      | (with_reducible refine LeO.ite ?_ ?_)
      | (with_reducible refine LeO.bind ?_ (fun _ => ?_))
      | exact ih0 _ _ _ _ _ _ _
      | exact ih1 _ _ _ _
      | exact impl_PairParty.mono _ _
      | exact laws_eqParty.mono _ _ _ _ _
      | exact laws_heldParty.mono _ _ _ _
      | exact laws_markParty.mono _ _ _ _
      | exact spec_PairParty.mono _ _
      | exact LeO.none _
      | refine LeO.ite ?_ ?_
      | refine LeO.bind ?_ (fun _ => ?_)
theorem laws_FnExactPairParty.mono : ∀ a0 k, LeO (laws_FnExactPairParty.f k a0) (laws_FnExactPairParty.f (k + 1) a0) := by
  intro a0 k
  obtain ⟨ih0, ih1⟩ := laws_FnExactPairParty.mono_l k
  unfold laws_FnExactPairParty.f
  repeat' first
      | (with_reducible exact ih0 _ _ _ _ _ _ _)
      | (with_reducible exact ih1 _ _ _ _)
      | (with_reducible exact impl_PairParty.mono _ _)
      | (with_reducible exact laws_eqParty.mono _ _ _ _ _)
      | (with_reducible exact laws_heldParty.mono _ _ _ _)
      | (with_reducible exact laws_markParty.mono _ _ _ _)
      | (with_reducible exact spec_PairParty.mono _ _)
      | (with_reducible exact LeO.refl _)
      | (with_reducible exact LeO.none _)
      | (with_reducible refine LeO.ite ?_ ?_)
      | (with_reducible refine LeO.bind ?_ (fun _ => ?_))
      | exact ih0 _ _ _ _ _ _ _
      | exact ih1 _ _ _ _
      | exact impl_PairParty.mono _ _
      | exact laws_eqParty.mono _ _ _ _ _
      | exact laws_heldParty.mono _ _ _ _
      | exact laws_markParty.mono _ _ _ _
      | exact spec_PairParty.mono _ _
      | exact LeO.none _
      | refine LeO.ite ?_ ?_
      | refine LeO.bind ?_ (fun _ => ?_)
set_option maxHeartbeats 8000000 in
set_option maxRecDepth 100000 in
theorem laws_FnExactPairParty.calls (k : Nat) (a0 : Int) (r : Bool) (w : World) (h : laws_FnExactPairParty.f k a0 = some r) :
    Calls Try.prog 9 #[.int .i64 a0] w fun e w' => e = .returned (.bool r) ∧ Below w.heap.size w w' := by
  have hu30 := Try.underlying30
  have HB := Aside0.mk (Below.refl w.heap.size w)
  have H : ((spec_PairParty.f k a0).bind fun bt732 => ((impl_PairParty.f k a0).bind fun bt738 => ((laws_eqParty.f k bt738.1 bt738.2.1 bt732.1 bt732.2.1).bind fun t744 => (if t744 = true then (laws_FnExactPairParty.j0 k a0 bt732.2.2 (bt738.2.2 != bt732.2.2) bt732.1 bt732.2.1 bt738.1 bt738.2.1) else (laws_FnExactPairParty.j0 k a0 bt732.2.2 true bt732.1 bt732.2.1 bt738.1 bt738.2.1))))) = some r := h
  clear h
  replace H := Option.bind_eq_some_iff.mp H
  obtain ⟨⟨t732, t733, t736⟩, A20, H⟩ := H
  replace H : ((impl_PairParty.f k a0).bind fun bt738 => ((laws_eqParty.f k bt738.1 bt738.2.1 t732 t733).bind fun t744 => (if t744 = true then (laws_FnExactPairParty.j0 k a0 t736 (bt738.2.2 != t736) t732 t733 bt738.1 bt738.2.1) else (laws_FnExactPairParty.j0 k a0 t736 true t732 t733 bt738.1 bt738.2.1)))) = some r := H
  have A2 := Aside0.mk A20
  clear A20
  replace H := Option.bind_eq_some_iff.mp H
  obtain ⟨⟨t738, t739, t742⟩, A30, H⟩ := H
  replace H : ((laws_eqParty.f k t738 t739 t732 t733).bind fun t744 => (if t744 = true then (laws_FnExactPairParty.j0 k a0 t736 (t742 != t736) t732 t733 t738 t739) else (laws_FnExactPairParty.j0 k a0 t736 true t732 t733 t738 t739))) = some r := H
  have A3 := Aside0.mk A30
  clear A30
  have HC4 := Aside0.mk H
  clear H
  go_enter Try.func9, Try.ntmps9
  go_upto_region 3 with (first | ((with_reducible refine gate_callee (f := 36) rfl ?_); refine goesL_ (some 13) rfl rfl Try.func36 (by kernel_rfl) rfl #[.int .i64 a0] rfl (by (try simp only [List.map_toArray, List.map_cons, List.map_nil]); first | done | rfl | (simp only [List.length_drop, List.length_take]; rfl)) ?_; (with_reducible refine (spec_PairParty.calls k a0 t732 t733 t736 _ A2.out).mono ?_); rintro e w5 ⟨v734, rfl, ho0, hb⟩; refine ⟨_, rfl, ?_⟩; have n0_ := Aside0.mk (Kd.R_lower ho0 (below_size (by repeat (first | (with_reducible first | exact HB.out | apply below_alloc | apply pw_below_drewN | apply below_drew1) | exact HB.out)))); have n1_ := Aside0.mk (below_step (by repeat (first | (with_reducible first | exact HB.out | apply below_alloc | apply pw_below_drewN | apply below_drew1) | exact HB.out)) hb); clear HB; have HO735 := n0_; have HB := n1_; clear n0_ n1_; (try clear hb); (try clear hb2); (try clear hk); (try clear hi); (try clear ho0)) | ((with_reducible refine gate_dst (N := 3) rfl ?_); refine box_event ?hg (N := 3) ?hd (cs := #[.int .i64 0, .slice none 0 0]) (t := 30) ?hr ?_; (case hd => rfl); (case hg => rfl); (case hr => first | (go_simp; done) | (go_simp; rfl)); intro gb737 hg w6 hbox hb; have n0_ := Aside0.mk (Kd.R_below (by (with_reducible repeat (first | apply Kd.R_alloc | apply Kd.R_drewN | apply Kd.R_drew)); exact HO735.out) hb); have n1_ := Aside0.mk (below_step (by repeat (first | (with_reducible first | exact HB.out | apply below_alloc | apply pw_below_drewN | apply below_drew1) | exact HB.out)) hb); have n2_ := Aside0.mk (hbox); have n3_ := Aside0.mk ((by rw [hg]; exact (below_size (by repeat (first | (with_reducible first | exact HB.out | apply below_alloc | apply pw_below_drewN | apply below_drew1) | exact HB.out))) : w.heap.size ≤ gb737)); have n4_ := Aside0.mk ((by rw [hg]; exact (below_size (by repeat (first | (with_reducible first | exact HB.out | apply below_alloc | apply pw_below_drewN | apply below_drew1) | exact HB.out))) : w.heap.size ≤ gb737)); clear HO735; clear HB; have HO735 := n0_; have HB := n1_; have BK737 := n2_; have GW737 := n3_; have GE737 := n4_; clear n0_ n1_ n2_ n3_ n4_; clear hb hbox hg; have hcz7_0 : w6.cell? ⟨gb737, 0, none⟩ = some (.int .i64 0) := (blk_cell BK737.out 0).trans rfl; have hcz7_1 : w6.cell? ⟨gb737, 1, none⟩ = some (.slice none 0 0) := (blk_cell BK737.out 1).trans rfl; have hfz7_0 := blk_frozen BK737.out 0; have hfz7_1 := blk_frozen BK737.out 1; obtain ⟨Ao8, co8, eo8⟩ := Kd.R_slice HO735.out; subst eo8) | ((with_reducible refine gate_callee (f := 37) rfl ?_); refine goesL_ (some 18) rfl rfl Try.func37 (by kernel_rfl) rfl #[.int .i64 a0] rfl (by (try simp only [List.map_toArray, List.map_cons, List.map_nil]); first | done | rfl | (simp only [List.length_drop, List.length_take]; rfl)) ?_; (with_reducible refine (impl_PairParty.calls k a0 t738 t739 t742 _ A3.out).mono ?_); rintro e w9 ⟨v740, rfl, ho0, hb⟩; refine ⟨_, rfl, ?_⟩; have n0_ := Aside0.mk (Kd.R_elder' (by (with_reducible repeat (first | apply Kd.R_alloc | apply Kd.R_drewN | apply Kd.R_drew)); exact (Kd.R_mono (Kd.R_far (p := ⟨gb737, 1, none⟩) (Kd.R_far (p := ⟨gb737, 0, none⟩) (Kd.R_types HO735.out BK737.out (by decide)) (fun _ hk => hk.2) (.int .i64 t732)) (fun _ hk => hk.2) (.slice Ao8 t733.length co8)) (fun _ h_ => h_.1))) (Kd.R_base ho0) hb); have n1_ := Aside0.mk (Kd.R_lower (Kd.R_new' ho0 (Kd.R_lt (by (with_reducible repeat (first | apply Kd.R_alloc | apply Kd.R_drewN | apply Kd.R_drew)); exact (Kd.R_mono (Kd.R_far (p := ⟨gb737, 1, none⟩) (Kd.R_far (p := ⟨gb737, 0, none⟩) (Kd.R_types HO735.out BK737.out (by decide)) (fun _ hk => hk.2) (.int .i64 t732)) (fun _ hk => hk.2) (.slice Ao8 t733.length co8)) (fun _ h_ => h_.1))))) (below_size (by repeat (first | (with_reducible first | exact HB.out | apply below_alloc | apply pw_below_drewN | apply below_drew1 | refine below_set ?_ GE737.out) | exact HB.out)))); have n2_ := Aside0.mk (blk_below (g := gb737) (o := .cells #[.int .i64 t732, .slice Ao8 t733.length co8] 30 (0, 0)) (by (with_reducible repeat (first | refine blk_drewN ?_ _ | refine blk_drew ?_ | refine blk_alloc ?_ _)); refine blk_put (cs := #[.int .i64 t732, .slice none 0 0]) ?_ 1 _ rfl; (with_reducible repeat (first | refine blk_drewN ?_ _ | refine blk_drew ?_ | refine blk_alloc ?_ _)); refine blk_put (cs := #[.int .i64 0, .slice none 0 0]) ?_ 0 _ rfl; (with_reducible repeat (first | refine blk_drewN ?_ _ | refine blk_drew ?_ | refine blk_alloc ?_ _)); exact BK737.out) hb); have n3_ := Aside0.mk (below_step (by repeat (first | (with_reducible first | exact HB.out | apply below_alloc | apply pw_below_drewN | apply below_drew1 | refine below_set ?_ GE737.out) | exact HB.out)) hb); clear HO735; clear BK737; clear HB; have HO735 := n0_; have HO741 := n1_; have BK737 := n2_; have HB := n3_; clear n0_ n1_ n2_ n3_; (try clear hb); (try clear hb2); (try clear hk); (try clear hi); (try clear ho0)) | ((with_reducible refine gate_dst (N := 5) rfl ?_); refine box_event ?hg (N := 5) ?hd (cs := #[.int .i64 0, .slice none 0 0]) (t := 30) ?hr ?_; (case hd => rfl); (case hg => rfl); (case hr => first | (go_simp; done) | (go_simp; rfl)); intro gb743 hg w10 hbox hb; have n0_ := Aside0.mk (Kd.R_below (by (with_reducible repeat (first | apply Kd.R_alloc | apply Kd.R_drewN | apply Kd.R_drew)); exact HO735.out) hb); have n1_ := Aside0.mk (Kd.R_below (by (with_reducible repeat (first | apply Kd.R_alloc | apply Kd.R_drewN | apply Kd.R_drew)); exact HO741.out) hb); have n2_ := Aside0.mk (blk_below (g := gb737) (o := .cells #[.int .i64 t732, .slice Ao8 t733.length co8] 30 (0, 0)) (by (with_reducible repeat (first | refine blk_drewN ?_ _ | refine blk_drew ?_ | refine blk_alloc ?_ _)); exact BK737.out) hb); have n3_ := Aside0.mk (below_step (by repeat (first | (with_reducible first | exact HB.out | apply below_alloc | apply pw_below_drewN | apply below_drew1 | refine below_set ?_ GE737.out) | exact HB.out)) hb); have n4_ := Aside0.mk (hbox); have n5_ := Aside0.mk ((by rw [hg]; exact (below_size (by repeat (first | (with_reducible first | exact HB.out | apply below_alloc | apply pw_below_drewN | apply below_drew1 | refine below_set ?_ GE737.out) | exact HB.out))) : w.heap.size ≤ gb743)); have n6_ := Aside0.mk ((by rw [hg]; exact (below_size (by repeat (first | (with_reducible first | exact HB.out | apply below_alloc | apply pw_below_drewN | apply below_drew1 | refine below_set ?_ GE737.out) | exact HB.out))) : w.heap.size ≤ gb743)); have n7_ := Aside0.mk ((by rw [hg]; exact Nat.ne_of_lt (blk_lt (g := gb737) (o := .cells #[.int .i64 t732, .slice Ao8 t733.length co8] 30 (0, 0)) (by (with_reducible repeat (first | refine blk_drewN ?_ _ | refine blk_drew ?_ | refine blk_alloc ?_ _)); exact BK737.out)) : gb737 ≠ gb743)); have n8_ := Aside0.mk ((by rw [hg]; exact Nat.ne_of_gt (blk_lt (g := gb737) (o := .cells #[.int .i64 t732, .slice Ao8 t733.length co8] 30 (0, 0)) (by (with_reducible repeat (first | refine blk_drewN ?_ _ | refine blk_drew ?_ | refine blk_alloc ?_ _)); exact BK737.out)) : gb743 ≠ gb737)); clear HO735; clear HO741; clear BK737; clear HB; have HO735 := n0_; have HO741 := n1_; have BK737 := n2_; have HB := n3_; have BK743 := n4_; have GW743 := n5_; have GE743 := n6_; have NB737_743 := n7_; have NB743_737 := n8_; clear n0_ n1_ n2_ n3_ n4_ n5_ n6_ n7_ n8_; clear hb hbox hg; have hnb11 := NB743_737.out; have hnc11 := NB737_743.out; have hcz12_0 : w10.cell? ⟨gb743, 0, none⟩ = some (.int .i64 0) := (blk_cell BK743.out 0).trans rfl; have hcz12_1 : w10.cell? ⟨gb743, 1, none⟩ = some (.slice none 0 0) := (blk_cell BK743.out 1).trans rfl; have hfz12_0 := blk_frozen BK743.out 0; have hfz12_1 := blk_frozen BK743.out 1; obtain ⟨Ao13, co13, eo13⟩ := Kd.R_slice HO741.out; subst eo13))
  (try simp only [Act.put, List.setIfInBounds_toArray, List.set_cons_zero, List.set_cons_succ])
  go_cut [29] (fun v29 wc => ∃ (kq : Nat) (x29_3 : Bool), v29 = .bool x29_3 ∧ Aside0 (laws_FnExactPairParty.j0 kq a0 t736 x29_3 t732 t733 t738 t739 = some r) ∧ Aside0 (kq ≤ k) ∧ Aside0 (Kd.R k63 63 wc w.heap.size (fun k_ => some k_ ≠ ((.slice Ao13 t739.length co13) : Value).ownBlock) (.slice Ao8 t733.length co8) t733) ∧ Aside0 (Kd.R k63 63 wc w.heap.size (fun k_ => some k_ ≠ ((.slice Ao8 t733.length co8) : Value).ownBlock) (.slice Ao13 t739.length co13) t739) ∧ Aside0 (wc.heap[gb737]? = some (.cells #[.int .i64 t732, (.slice Ao8 t733.length co8)] 30 (0, 0))) ∧ Aside0 (wc.heap[gb743]? = some (.cells #[.int .i64 t738, (.slice Ao13 t739.length co13)] 30 (0, 0))) ∧ Aside0 (Below w.heap.size w wc))
  case first =>
    have H := HC4.out
    clear HC4
    replace H := Option.bind_eq_some_iff.mp H
    obtain ⟨t744, A140, H⟩ := H
    replace H : (if t744 = true then (laws_FnExactPairParty.j0 k a0 t736 (t742 != t736) t732 t733 t738 t739) else (laws_FnExactPairParty.j0 k a0 t736 true t732 t733 t738 t739)) = some r := H
    have A14 := Aside0.mk A140
    clear A140
    by_cases c15 : t744 = true
    · subst c15
      have H1 : (laws_FnExactPairParty.j0 k a0 t736 (t742 != t736) t732 t733 t738 t739) = some r := by rw [if_pos rfl] at H; exact H
      clear H
      have H := H1
      clear H1
      have H' := Aside0.mk H
      clear H
      have hnb16 := NB743_737.out
      have hnc16 := NB737_743.out
      have hcz17_0 : w10.cell? ⟨gb743, 0, none⟩ = some (.int .i64 0) := (blk_cell BK743.out 0).trans rfl
      have hcz17_1 : w10.cell? ⟨gb743, 1, none⟩ = some (.slice none 0 0) := (blk_cell BK743.out 1).trans rfl
      have hfz17_0 := blk_frozen BK743.out 0
      have hfz17_1 := blk_frozen BK743.out 1
      have hcz18_0 : w10.cell? ⟨gb737, 0, none⟩ = some (.int .i64 t732) := (blk_cell BK737.out 0).trans rfl
      have hcz18_1 : w10.cell? ⟨gb737, 1, none⟩ = some (.slice Ao8 t733.length co8) := (blk_cell BK737.out 1).trans rfl
      have hfz18_0 := blk_frozen BK737.out 0
      have hfz18_1 := blk_frozen BK737.out 1
      go_wp2_with (first | ((with_reducible refine gate_callee (f := 15) rfl ?_); refine goesL_ (some 23) rfl rfl Try.func15 (by kernel_rfl) rfl #[.agg #[.int .i64 t738, .slice Ao13 t739.length co13], .agg #[.int .i64 t732, .slice Ao8 t733.length co8]] rfl (by (try simp only [List.map_toArray, List.map_cons, List.map_nil]); first | done | rfl | (simp only [List.length_drop, List.length_take]; rfl)) ?_; (with_reducible refine (laws_eqParty.calls k t738 _ _ t739 t732 _ _ t733 true _ ?side1 ?side2 ?side3 ?side4 A14.out).mono ?_); (case side1 => refine (Kd.R_reads' (e := 63) (base := w.heap.size) (ok := fun k_ => (True ∧ some k_ ≠ (.slice Ao8 t733.length co8 : Value).ownBlock)) (n := t739.length) (c := co13) ?_).2.2; exact (by (with_reducible repeat (first | apply Kd.R_alloc | apply Kd.R_drewN | apply Kd.R_drew)); exact (Kd.R_mono (Kd.R_far (p := ⟨gb743, 1, none⟩) (Kd.R_far (p := ⟨gb743, 0, none⟩) (Kd.R_types HO741.out BK743.out (by decide)) (fun _ hk => hk.2) (.int .i64 t738)) (fun _ hk => hk.2) (.slice Ao13 t739.length co13)) (fun _ h_ => h_.1)))); (case side2 => exact (Kd.R_reads' HO741.out).2.1); (case side3 => refine (Kd.R_reads' (e := 63) (base := w.heap.size) (ok := fun k_ => (True ∧ some k_ ≠ (.slice Ao13 t739.length co13 : Value).ownBlock)) (n := t733.length) (c := co8) ?_).2.2; exact (by (with_reducible repeat (first | apply Kd.R_alloc | apply Kd.R_drewN | apply Kd.R_drew)); exact (Kd.R_mono (Kd.R_far (p := ⟨gb743, 1, none⟩) (Kd.R_far (p := ⟨gb743, 0, none⟩) (Kd.R_types HO735.out BK743.out (by decide)) (fun _ hk => hk.2) (.int .i64 t738)) (fun _ hk => hk.2) (.slice Ao13 t739.length co13)) (fun _ h_ => h_.1)))); (case side4 => exact (Kd.R_reads' HO735.out).2.1); rintro e w19 ⟨rfl, hb⟩; refine ⟨_, rfl, ?_⟩; have n0_ := Aside0.mk (Kd.R_below (by (with_reducible repeat (first | apply Kd.R_alloc | apply Kd.R_drewN | apply Kd.R_drew)); exact (Kd.R_mono (Kd.R_far (p := ⟨gb743, 1, none⟩) (Kd.R_far (p := ⟨gb743, 0, none⟩) (Kd.R_types HO735.out BK743.out (by decide)) (fun _ hk => hk.2) (.int .i64 t738)) (fun _ hk => hk.2) (.slice Ao13 t739.length co13)) (fun _ h_ => h_.1))) hb); have n1_ := Aside0.mk (Kd.R_below (by (with_reducible repeat (first | apply Kd.R_alloc | apply Kd.R_drewN | apply Kd.R_drew)); exact (Kd.R_mono (Kd.R_far (p := ⟨gb743, 1, none⟩) (Kd.R_far (p := ⟨gb743, 0, none⟩) (Kd.R_types HO741.out BK743.out (by decide)) (fun _ hk => hk.2) (.int .i64 t738)) (fun _ hk => hk.2) (.slice Ao13 t739.length co13)) (fun _ h_ => h_.1))) hb); have n2_ := Aside0.mk (blk_below (g := gb737) (o := .cells #[.int .i64 t732, .slice Ao8 t733.length co8] 30 (0, 0)) (by (with_reducible repeat (first | refine blk_drewN ?_ _ | refine blk_drew ?_ | refine blk_alloc ?_ _)); refine blk_far ?_ NB737_743.out _; (with_reducible repeat (first | refine blk_drewN ?_ _ | refine blk_drew ?_ | refine blk_alloc ?_ _)); refine blk_far ?_ NB737_743.out _; (with_reducible repeat (first | refine blk_drewN ?_ _ | refine blk_drew ?_ | refine blk_alloc ?_ _)); exact BK737.out) hb); have n3_ := Aside0.mk (blk_below (g := gb743) (o := .cells #[.int .i64 t738, .slice Ao13 t739.length co13] 30 (0, 0)) (by (with_reducible repeat (first | refine blk_drewN ?_ _ | refine blk_drew ?_ | refine blk_alloc ?_ _)); refine blk_put (cs := #[.int .i64 t738, .slice none 0 0]) ?_ 1 _ rfl; (with_reducible repeat (first | refine blk_drewN ?_ _ | refine blk_drew ?_ | refine blk_alloc ?_ _)); refine blk_put (cs := #[.int .i64 0, .slice none 0 0]) ?_ 0 _ rfl; (with_reducible repeat (first | refine blk_drewN ?_ _ | refine blk_drew ?_ | refine blk_alloc ?_ _)); exact BK743.out) hb); have n4_ := Aside0.mk (below_step (by repeat (first | (with_reducible first | exact HB.out | apply below_alloc | apply pw_below_drewN | apply below_drew1 | refine below_set ?_ GE737.out | refine below_set ?_ GE743.out) | exact HB.out)) hb); clear HO735; clear HO741; clear BK737; clear BK743; clear HB; have HO735 := n0_; have HO741 := n1_; have BK737 := n2_; have BK743 := n3_; have HB := n4_; clear n0_ n1_ n2_ n3_ n4_; (try clear hb); (try clear hb2); (try clear hk); (try clear hi)))
      go_meet
      case rel => exact ⟨_, ((t742 != t736)), (by first | rfl | (simp; done) | (simp [*]; done)), H', ⟨by first | omega | exact Nat.le_refl _⟩, ⟨by (with_reducible repeat (first | apply Kd.R_alloc | apply Kd.R_drewN | apply Kd.R_drew)); exact Kd.R_mono HO735.out (fun _ hk => hk.2)⟩, ⟨by (with_reducible repeat (first | apply Kd.R_alloc | apply Kd.R_drewN | apply Kd.R_drew)); exact Kd.R_mono HO741.out (fun _ hk => hk.2)⟩, ⟨by (with_reducible repeat (first | refine blk_drewN ?_ _ | refine blk_drew ?_ | refine blk_alloc ?_ _)); exact BK737.out⟩, ⟨by (with_reducible repeat (first | refine blk_drewN ?_ _ | refine blk_drew ?_ | refine blk_alloc ?_ _)); exact BK743.out⟩, ⟨by repeat (first | (with_reducible first | exact HB.out | apply below_alloc | apply pw_below_drewN | apply below_drew1 | refine below_set ?_ GE737.out | refine below_set ?_ GE743.out) | exact HB.out)⟩⟩
    · replace c15 := Bool.eq_false_iff.mpr c15
      subst c15
      have H1 : (laws_FnExactPairParty.j0 k a0 t736 true t732 t733 t738 t739) = some r := by rw [if_neg (show ¬ (false = true) by decide)] at H; exact H
      clear H
      have H := H1
      clear H1
      have H' := Aside0.mk H
      clear H
      have hnb20 := NB743_737.out
      have hnc20 := NB737_743.out
      have hcz21_0 : w10.cell? ⟨gb743, 0, none⟩ = some (.int .i64 0) := (blk_cell BK743.out 0).trans rfl
      have hcz21_1 : w10.cell? ⟨gb743, 1, none⟩ = some (.slice none 0 0) := (blk_cell BK743.out 1).trans rfl
      have hfz21_0 := blk_frozen BK743.out 0
      have hfz21_1 := blk_frozen BK743.out 1
      have hcz22_0 : w10.cell? ⟨gb737, 0, none⟩ = some (.int .i64 t732) := (blk_cell BK737.out 0).trans rfl
      have hcz22_1 : w10.cell? ⟨gb737, 1, none⟩ = some (.slice Ao8 t733.length co8) := (blk_cell BK737.out 1).trans rfl
      have hfz22_0 := blk_frozen BK737.out 0
      have hfz22_1 := blk_frozen BK737.out 1
      go_wp2_with (first | ((with_reducible refine gate_callee (f := 15) rfl ?_); refine goesL_ (some 23) rfl rfl Try.func15 (by kernel_rfl) rfl #[.agg #[.int .i64 t738, .slice Ao13 t739.length co13], .agg #[.int .i64 t732, .slice Ao8 t733.length co8]] rfl (by (try simp only [List.map_toArray, List.map_cons, List.map_nil]); first | done | rfl | (simp only [List.length_drop, List.length_take]; rfl)) ?_; (with_reducible refine (laws_eqParty.calls k t738 _ _ t739 t732 _ _ t733 false _ ?side1 ?side2 ?side3 ?side4 A14.out).mono ?_); (case side1 => refine (Kd.R_reads' (e := 63) (base := w.heap.size) (ok := fun k_ => (True ∧ some k_ ≠ (.slice Ao8 t733.length co8 : Value).ownBlock)) (n := t739.length) (c := co13) ?_).2.2; exact (by (with_reducible repeat (first | apply Kd.R_alloc | apply Kd.R_drewN | apply Kd.R_drew)); exact (Kd.R_mono (Kd.R_far (p := ⟨gb743, 1, none⟩) (Kd.R_far (p := ⟨gb743, 0, none⟩) (Kd.R_types HO741.out BK743.out (by decide)) (fun _ hk => hk.2) (.int .i64 t738)) (fun _ hk => hk.2) (.slice Ao13 t739.length co13)) (fun _ h_ => h_.1)))); (case side2 => exact (Kd.R_reads' HO741.out).2.1); (case side3 => refine (Kd.R_reads' (e := 63) (base := w.heap.size) (ok := fun k_ => (True ∧ some k_ ≠ (.slice Ao13 t739.length co13 : Value).ownBlock)) (n := t733.length) (c := co8) ?_).2.2; exact (by (with_reducible repeat (first | apply Kd.R_alloc | apply Kd.R_drewN | apply Kd.R_drew)); exact (Kd.R_mono (Kd.R_far (p := ⟨gb743, 1, none⟩) (Kd.R_far (p := ⟨gb743, 0, none⟩) (Kd.R_types HO735.out BK743.out (by decide)) (fun _ hk => hk.2) (.int .i64 t738)) (fun _ hk => hk.2) (.slice Ao13 t739.length co13)) (fun _ h_ => h_.1)))); (case side4 => exact (Kd.R_reads' HO735.out).2.1); rintro e w23 ⟨rfl, hb⟩; refine ⟨_, rfl, ?_⟩; have n0_ := Aside0.mk (Kd.R_below (by (with_reducible repeat (first | apply Kd.R_alloc | apply Kd.R_drewN | apply Kd.R_drew)); exact (Kd.R_mono (Kd.R_far (p := ⟨gb743, 1, none⟩) (Kd.R_far (p := ⟨gb743, 0, none⟩) (Kd.R_types HO735.out BK743.out (by decide)) (fun _ hk => hk.2) (.int .i64 t738)) (fun _ hk => hk.2) (.slice Ao13 t739.length co13)) (fun _ h_ => h_.1))) hb); have n1_ := Aside0.mk (Kd.R_below (by (with_reducible repeat (first | apply Kd.R_alloc | apply Kd.R_drewN | apply Kd.R_drew)); exact (Kd.R_mono (Kd.R_far (p := ⟨gb743, 1, none⟩) (Kd.R_far (p := ⟨gb743, 0, none⟩) (Kd.R_types HO741.out BK743.out (by decide)) (fun _ hk => hk.2) (.int .i64 t738)) (fun _ hk => hk.2) (.slice Ao13 t739.length co13)) (fun _ h_ => h_.1))) hb); have n2_ := Aside0.mk (blk_below (g := gb737) (o := .cells #[.int .i64 t732, .slice Ao8 t733.length co8] 30 (0, 0)) (by (with_reducible repeat (first | refine blk_drewN ?_ _ | refine blk_drew ?_ | refine blk_alloc ?_ _)); refine blk_far ?_ NB737_743.out _; (with_reducible repeat (first | refine blk_drewN ?_ _ | refine blk_drew ?_ | refine blk_alloc ?_ _)); refine blk_far ?_ NB737_743.out _; (with_reducible repeat (first | refine blk_drewN ?_ _ | refine blk_drew ?_ | refine blk_alloc ?_ _)); exact BK737.out) hb); have n3_ := Aside0.mk (blk_below (g := gb743) (o := .cells #[.int .i64 t738, .slice Ao13 t739.length co13] 30 (0, 0)) (by (with_reducible repeat (first | refine blk_drewN ?_ _ | refine blk_drew ?_ | refine blk_alloc ?_ _)); refine blk_put (cs := #[.int .i64 t738, .slice none 0 0]) ?_ 1 _ rfl; (with_reducible repeat (first | refine blk_drewN ?_ _ | refine blk_drew ?_ | refine blk_alloc ?_ _)); refine blk_put (cs := #[.int .i64 0, .slice none 0 0]) ?_ 0 _ rfl; (with_reducible repeat (first | refine blk_drewN ?_ _ | refine blk_drew ?_ | refine blk_alloc ?_ _)); exact BK743.out) hb); have n4_ := Aside0.mk (below_step (by repeat (first | (with_reducible first | exact HB.out | apply below_alloc | apply pw_below_drewN | apply below_drew1 | refine below_set ?_ GE737.out | refine below_set ?_ GE743.out) | exact HB.out)) hb); clear HO735; clear HO741; clear BK737; clear BK743; clear HB; have HO735 := n0_; have HO741 := n1_; have BK737 := n2_; have BK743 := n3_; have HB := n4_; clear n0_ n1_ n2_ n3_ n4_; (try clear hb); (try clear hb2); (try clear hk); (try clear hi)))
      go_meet
      case rel => exact ⟨_, (true), (by first | rfl | (simp; done) | (simp [*]; done)), H', ⟨by first | omega | exact Nat.le_refl _⟩, ⟨by (with_reducible repeat (first | apply Kd.R_alloc | apply Kd.R_drewN | apply Kd.R_drew)); exact Kd.R_mono HO735.out (fun _ hk => hk.2)⟩, ⟨by (with_reducible repeat (first | apply Kd.R_alloc | apply Kd.R_drewN | apply Kd.R_drew)); exact Kd.R_mono HO741.out (fun _ hk => hk.2)⟩, ⟨by (with_reducible repeat (first | refine blk_drewN ?_ _ | refine blk_drew ?_ | refine blk_alloc ?_ _)); exact BK737.out⟩, ⟨by (with_reducible repeat (first | refine blk_drewN ?_ _ | refine blk_drew ?_ | refine blk_alloc ?_ _)); exact BK743.out⟩, ⟨by repeat (first | (with_reducible first | exact HB.out | apply below_alloc | apply pw_below_drewN | apply below_drew1 | refine below_set ?_ GE737.out | refine below_set ?_ GE743.out) | exact HB.out)⟩⟩
  case rest =>
    clear HC4
    try clear c1
    try clear c2
    try clear p2
    try clear c3
    try clear c9
    try clear c11
    try clear c15
    try clear c16
    try clear c20
    try clear hcz12_0
    try clear hcz12_1
    try clear hcz17_0
    try clear hcz17_1
    try clear hcz18_0
    try clear hcz18_1
    try clear hcz21_0
    try clear hcz21_1
    try clear hcz22_0
    try clear hcz22_1
    try clear hcz7_0
    try clear hcz7_1
    try clear hfz12_0
    try clear hfz12_1
    try clear hfz17_0
    try clear hfz17_1
    try clear hfz18_0
    try clear hfz18_1
    try clear hfz21_0
    try clear hfz21_1
    try clear hfz22_0
    try clear hfz22_1
    try clear hfz7_0
    try clear hfz7_1
    obtain ⟨kq, x29_3, rfl, HA, HJ3, HO_738001, HO_744001, BK737, BK743, HB⟩ := hcut
    cases kq with
    | zero => exact absurd HA.out (by simp [laws_FnExactPairParty.j0])
    | succ kj3 =>
      have H := HA.out
      clear HA
      simp only [laws_FnExactPairParty.j0] at H
      by_cases c24 : x29_3 = true
      · subst c24
        have H1 : (some false) = some r := by rw [if_pos rfl] at H; exact H
        clear H
        have H := H1
        clear H1
        obtain rfl := Option.some.inj H
        go_wp2
        go_ret
        exact ⟨by first | rfl | (simp [errW_none, errW_some] <;> rfl) | (simp [*, errW_none, errW_some] <;> rfl), by repeat (first | (with_reducible first | exact HB.out | apply below_alloc | apply pw_below_drewN | apply below_drew1 | refine below_set ?_ GE737.out | refine below_set ?_ GE743.out) | exact HB.out)⟩
      · replace c24 := Bool.eq_false_iff.mpr c24
        subst c24
        have H1 : ((laws_markParty.f kj3 t738 t739 1).bind fun bt745 => ((laws_heldParty.f kj3 t738 bt745.2 1).bind fun t747 => (if t747 < 0 then (some false) else (if t747 = bt745.1 then ((impl_PairParty.f kj3 a0).bind fun bt748 => ((laws_eqParty.f kj3 bt748.1 bt748.2.1 t732 t733).bind fun t754 => (if t754 = true then (laws_FnExactPairParty.j1 kj3 bt745.1 (bt748.2.2 != t736) t738 bt745.2) else (laws_FnExactPairParty.j1 kj3 bt745.1 true t738 bt745.2)))) else (some false))))) = some r := by rw [if_neg (show ¬ (false = true) by decide)] at H; exact H
        clear H
        have H := H1
        clear H1
        replace H := Option.bind_eq_some_iff.mp H
        obtain ⟨⟨t745, t746⟩, A250, H⟩ := H
        replace H : ((laws_heldParty.f kj3 t738 t746 1).bind fun t747 => (if t747 < 0 then (some false) else (if t747 = t745 then ((impl_PairParty.f kj3 a0).bind fun bt748 => ((laws_eqParty.f kj3 bt748.1 bt748.2.1 t732 t733).bind fun t754 => (if t754 = true then (laws_FnExactPairParty.j1 kj3 t745 (bt748.2.2 != t736) t738 t746) else (laws_FnExactPairParty.j1 kj3 t745 true t738 t746)))) else (some false)))) = some r := H
        have A25 := Aside0.mk A250
        clear A250
        replace H := Option.bind_eq_some_iff.mp H
        obtain ⟨t747, A260, H⟩ := H
        replace H : (if t747 < 0 then (some false) else (if t747 = t745 then ((impl_PairParty.f kj3 a0).bind fun bt748 => ((laws_eqParty.f kj3 bt748.1 bt748.2.1 t732 t733).bind fun t754 => (if t754 = true then (laws_FnExactPairParty.j1 kj3 t745 (bt748.2.2 != t736) t738 t746) else (laws_FnExactPairParty.j1 kj3 t745 true t738 t746)))) else (some false))) = some r := H
        have A26 := Aside0.mk A260
        clear A260
        by_cases c27 : t747 < 0
        · rw [if_pos c27] at H
          have c27b0 : decide (t747 < 0) = true := decide_eq_true c27
          clear c27
          obtain rfl := Option.some.inj H
          have hnb28 := NB743_737.out
          have hnc28 := NB737_743.out
          have hcz29_0 : wc.cell? ⟨gb743, 0, none⟩ = some (.int .i64 t738) := (blk_cell BK743.out 0).trans rfl
          have hcz29_1 : wc.cell? ⟨gb743, 1, none⟩ = some (.slice Ao13 t739.length co13) := (blk_cell BK743.out 1).trans rfl
          have hfz29_0 := blk_frozen BK743.out 0
          have hfz29_1 := blk_frozen BK743.out 1
          go_wp2_with (first | ((with_reducible refine gate_callee (f := 30) rfl ?_); refine goesL_ (some 32) rfl rfl Try.func30 (by kernel_rfl) rfl #[.agg #[.int .i64 t738, .slice Ao13 t739.length co13], .int .i64 1] rfl (by (try simp only [List.map_toArray, List.map_cons, List.map_nil]); first | done | rfl | (simp only [List.length_drop, List.length_take]; rfl)) ?_; (with_reducible refine (laws_markParty.calls kj3 t738 (fun k_ => some k_ = (.slice Ao13 t739.length co13 : Value).ownBlock) (.slice Ao13 t739.length co13) t739 1 t745 t746 w _ ?side1 ?side2 A25.out).mono ?_); (case side1 => repeat (first | (with_reducible first | exact HB.out | apply below_alloc | apply pw_below_drewN | apply below_drew1 | refine below_set ?_ GE737.out | refine below_set ?_ GE743.out) | exact HB.out)); (case side2 => exact Kd.R_tight rfl HO_744001.out); rintro e w30 ⟨rfl, hy0, hb, hkp⟩; refine ⟨_, rfl, ?_⟩; have n0_ := Aside0.mk (Kd.R_mono (ok' := fun k_ => some k_ ≠ (.slice Ao13 t739.length co13 : Value).ownBlock) (Kd.R_keptB (HO_738001.out) hkp (fun k_ hk_ hs_ => (hk_) hs_)) (fun k_ hk_ => hk_.1)); have n1_ := Aside0.mk (Kd.R_reok rfl hy0 (fun k_ e_ => HO_744001.out.1 k_ e_)); have n2_ := Aside0.mk (blk_kept (by (with_reducible repeat (first | refine blk_drewN ?_ _ | refine blk_drew ?_ | refine blk_alloc ?_ _)); exact BK737.out) hkp (fun hs_ => (fun e_ => (Kd.R_ne HO_744001.out BK737.out (by decide)) e_) hs_)); have n3_ := Aside0.mk (blk_kept (by (with_reducible repeat (first | refine blk_drewN ?_ _ | refine blk_drew ?_ | refine blk_alloc ?_ _)); exact BK743.out) hkp (fun hs_ => (fun e_ => (Kd.R_ne HO_744001.out BK743.out (by decide)) e_) hs_)); have n4_ := Aside0.mk (hb); clear HO_738001; clear HO_744001; clear BK737; clear BK743; clear HB; have HO_738001 := n0_; have HO_744001 := n1_; have BK737 := n2_; have BK743 := n3_; have HB := n4_; clear n0_ n1_ n2_ n3_ n4_; (try clear hb); (try clear hkp); (try clear hy0); have hcz31_0 : w30.cell? ⟨gb743, 0, none⟩ = some (.int .i64 t738) := (blk_cell BK743.out 0).trans rfl; have hcz31_1 : w30.cell? ⟨gb743, 1, none⟩ = some (.slice Ao13 t739.length co13) := (blk_cell BK743.out 1).trans rfl; have hfz31_0 := blk_frozen BK743.out 0; have hfz31_1 := blk_frozen BK743.out 1) | ((with_reducible refine gate_callee (f := 31) rfl ?_); refine goesL_ (some 35) rfl rfl Try.func31 (by kernel_rfl) rfl #[.agg #[.int .i64 t738, .slice Ao13 t746.length co13], .int .i64 1] rfl (by (try simp only [List.map_toArray, List.map_cons, List.map_nil]); first | done | (rw [show t746.length = t739.length from (Kd.R_reads' HO_744001.out).1.symm] <;> rfl) | rfl | (simp only [List.length_drop, List.length_take]; rfl)) ?_; (with_reducible refine (laws_heldParty.calls kj3 t738 _ _ t746 1 t747 _ ?side1 ?side2 A26.out).mono ?_); (case side1 => repeat (first | exact (Kd.R_reads' HO_744001.out).2.2 | (with_reducible refine Kd.C_alloc ?_ _) | (with_reducible refine Kd.C_drewN ?_ _) | (with_reducible refine Kd.C_drew ?_))); (case side2 => rw [show t746.length = t739.length from (Kd.R_reads' HO_744001.out).1.symm]; exact (Kd.R_reads' HO_744001.out).2.1); rintro e w32 ⟨rfl, hb⟩; refine ⟨_, rfl, ?_⟩; have n0_ := Aside0.mk (Kd.R_below (by (with_reducible repeat (first | apply Kd.R_alloc | apply Kd.R_drewN | apply Kd.R_drew)); exact HO_738001.out) hb); have n1_ := Aside0.mk (Kd.R_below (by (with_reducible repeat (first | apply Kd.R_alloc | apply Kd.R_drewN | apply Kd.R_drew)); exact HO_744001.out) hb); have n2_ := Aside0.mk (blk_below (g := gb737) (o := .cells #[.int .i64 t732, .slice Ao8 t733.length co8] 30 (0, 0)) (by (with_reducible repeat (first | refine blk_drewN ?_ _ | refine blk_drew ?_ | refine blk_alloc ?_ _)); exact BK737.out) hb); have n3_ := Aside0.mk (blk_below (g := gb743) (o := .cells #[.int .i64 t738, .slice Ao13 t739.length co13] 30 (0, 0)) (by (with_reducible repeat (first | refine blk_drewN ?_ _ | refine blk_drew ?_ | refine blk_alloc ?_ _)); exact BK743.out) hb); have n4_ := Aside0.mk (below_step (by repeat (first | (with_reducible first | exact HB.out | apply below_alloc | apply pw_below_drewN | apply below_drew1 | refine below_set ?_ GE737.out | refine below_set ?_ GE743.out) | exact HB.out)) hb); clear HO_738001; clear HO_744001; clear BK737; clear BK743; clear HB; have HO_738001 := n0_; have HO_744001 := n1_; have BK737 := n2_; have BK743 := n3_; have HB := n4_; clear n0_ n1_ n2_ n3_ n4_; (try clear hb); (try clear hb2); (try clear hk); (try clear hi)))
          go_ret
          exact ⟨by first | rfl | (simp [errW_none, errW_some] <;> rfl) | (simp [*, errW_none, errW_some] <;> rfl), by repeat (first | (with_reducible first | exact HB.out | apply below_alloc | apply pw_below_drewN | apply below_drew1 | refine below_set ?_ GE737.out | refine below_set ?_ GE743.out) | exact HB.out)⟩
        · rw [if_neg c27] at H
          have c27b0 : decide (t747 < 0) = false := decide_eq_false c27
          clear c27
          by_cases c33 : t747 = t745
          · rw [if_pos c33] at H
            have c33b0 : (t747 == t745) = true := beq_iff_eq.mpr c33
            have c33b1 : (t747 != t745) = false := bne_eq_false_iff_eq.mpr c33
            clear c33
            replace H := Option.bind_eq_some_iff.mp H
            obtain ⟨⟨t748, t749, t752⟩, A340, H⟩ := H
            replace H : ((laws_eqParty.f kj3 t748 t749 t732 t733).bind fun t754 => (if t754 = true then (laws_FnExactPairParty.j1 kj3 t745 (t752 != t736) t738 t746) else (laws_FnExactPairParty.j1 kj3 t745 true t738 t746))) = some r := H
            have A34 := Aside0.mk A340
            clear A340
            have HC35 := Aside0.mk H
            clear H
            have hnb36 := NB743_737.out
            have hnc36 := NB737_743.out
            have hcz37_0 : wc.cell? ⟨gb743, 0, none⟩ = some (.int .i64 t738) := (blk_cell BK743.out 0).trans rfl
            have hcz37_1 : wc.cell? ⟨gb743, 1, none⟩ = some (.slice Ao13 t739.length co13) := (blk_cell BK743.out 1).trans rfl
            have hfz37_0 := blk_frozen BK743.out 0
            have hfz37_1 := blk_frozen BK743.out 1
            go_upto_region 14 with (first | ((with_reducible refine gate_callee (f := 30) rfl ?_); refine goesL_ (some 32) rfl rfl Try.func30 (by kernel_rfl) rfl #[.agg #[.int .i64 t738, .slice Ao13 t739.length co13], .int .i64 1] rfl (by (try simp only [List.map_toArray, List.map_cons, List.map_nil]); first | done | rfl | (simp only [List.length_drop, List.length_take]; rfl)) ?_; (with_reducible refine (laws_markParty.calls kj3 t738 (fun k_ => some k_ = (.slice Ao13 t739.length co13 : Value).ownBlock) (.slice Ao13 t739.length co13) t739 1 t745 t746 w _ ?side1 ?side2 A25.out).mono ?_); (case side1 => repeat (first | (with_reducible first | exact HB.out | apply below_alloc | apply pw_below_drewN | apply below_drew1 | refine below_set ?_ GE737.out | refine below_set ?_ GE743.out) | exact HB.out)); (case side2 => exact Kd.R_tight rfl HO_744001.out); rintro e w38 ⟨rfl, hy0, hb, hkp⟩; refine ⟨_, rfl, ?_⟩; have n0_ := Aside0.mk (Kd.R_mono (ok' := fun k_ => some k_ ≠ (.slice Ao13 t739.length co13 : Value).ownBlock) (Kd.R_keptB (HO_738001.out) hkp (fun k_ hk_ hs_ => (hk_) hs_)) (fun k_ hk_ => hk_.1)); have n1_ := Aside0.mk (Kd.R_reok rfl hy0 (fun k_ e_ => HO_744001.out.1 k_ e_)); have n2_ := Aside0.mk (blk_kept (by (with_reducible repeat (first | refine blk_drewN ?_ _ | refine blk_drew ?_ | refine blk_alloc ?_ _)); exact BK737.out) hkp (fun hs_ => (fun e_ => (Kd.R_ne HO_744001.out BK737.out (by decide)) e_) hs_)); have n3_ := Aside0.mk (blk_kept (by (with_reducible repeat (first | refine blk_drewN ?_ _ | refine blk_drew ?_ | refine blk_alloc ?_ _)); exact BK743.out) hkp (fun hs_ => (fun e_ => (Kd.R_ne HO_744001.out BK743.out (by decide)) e_) hs_)); have n4_ := Aside0.mk (hb); clear HO_738001; clear HO_744001; clear BK737; clear BK743; clear HB; have HO_738001 := n0_; have HO_744001 := n1_; have BK737 := n2_; have BK743 := n3_; have HB := n4_; clear n0_ n1_ n2_ n3_ n4_; (try clear hb); (try clear hkp); (try clear hy0); have hcz39_0 : w38.cell? ⟨gb743, 0, none⟩ = some (.int .i64 t738) := (blk_cell BK743.out 0).trans rfl; have hcz39_1 : w38.cell? ⟨gb743, 1, none⟩ = some (.slice Ao13 t739.length co13) := (blk_cell BK743.out 1).trans rfl; have hfz39_0 := blk_frozen BK743.out 0; have hfz39_1 := blk_frozen BK743.out 1) | ((with_reducible refine gate_callee (f := 31) rfl ?_); refine goesL_ (some 35) rfl rfl Try.func31 (by kernel_rfl) rfl #[.agg #[.int .i64 t738, .slice Ao13 t746.length co13], .int .i64 1] rfl (by (try simp only [List.map_toArray, List.map_cons, List.map_nil]); first | done | (rw [show t746.length = t739.length from (Kd.R_reads' HO_744001.out).1.symm] <;> rfl) | rfl | (simp only [List.length_drop, List.length_take]; rfl)) ?_; (with_reducible refine (laws_heldParty.calls kj3 t738 _ _ t746 1 t747 _ ?side1 ?side2 A26.out).mono ?_); (case side1 => repeat (first | exact (Kd.R_reads' HO_744001.out).2.2 | (with_reducible refine Kd.C_alloc ?_ _) | (with_reducible refine Kd.C_drewN ?_ _) | (with_reducible refine Kd.C_drew ?_))); (case side2 => rw [show t746.length = t739.length from (Kd.R_reads' HO_744001.out).1.symm]; exact (Kd.R_reads' HO_744001.out).2.1); rintro e w40 ⟨rfl, hb⟩; refine ⟨_, rfl, ?_⟩; have n0_ := Aside0.mk (Kd.R_below (by (with_reducible repeat (first | apply Kd.R_alloc | apply Kd.R_drewN | apply Kd.R_drew)); exact HO_738001.out) hb); have n1_ := Aside0.mk (Kd.R_below (by (with_reducible repeat (first | apply Kd.R_alloc | apply Kd.R_drewN | apply Kd.R_drew)); exact HO_744001.out) hb); have n2_ := Aside0.mk (blk_below (g := gb737) (o := .cells #[.int .i64 t732, .slice Ao8 t733.length co8] 30 (0, 0)) (by (with_reducible repeat (first | refine blk_drewN ?_ _ | refine blk_drew ?_ | refine blk_alloc ?_ _)); exact BK737.out) hb); have n3_ := Aside0.mk (blk_below (g := gb743) (o := .cells #[.int .i64 t738, .slice Ao13 t739.length co13] 30 (0, 0)) (by (with_reducible repeat (first | refine blk_drewN ?_ _ | refine blk_drew ?_ | refine blk_alloc ?_ _)); exact BK743.out) hb); have n4_ := Aside0.mk (below_step (by repeat (first | (with_reducible first | exact HB.out | apply below_alloc | apply pw_below_drewN | apply below_drew1 | refine below_set ?_ GE737.out | refine below_set ?_ GE743.out) | exact HB.out)) hb); clear HO_738001; clear HO_744001; clear BK737; clear BK743; clear HB; have HO_738001 := n0_; have HO_744001 := n1_; have BK737 := n2_; have BK743 := n3_; have HB := n4_; clear n0_ n1_ n2_ n3_ n4_; (try clear hb); (try clear hb2); (try clear hk); (try clear hi)) | ((with_reducible refine gate_callee (f := 37) rfl ?_); refine goesL_ (some 43) rfl rfl Try.func37 (by kernel_rfl) rfl #[.int .i64 a0] rfl (by (try simp only [List.map_toArray, List.map_cons, List.map_nil]); first | done | rfl | (simp only [List.length_drop, List.length_take]; rfl)) ?_; (with_reducible refine (impl_PairParty.calls kj3 a0 t748 t749 t752 _ A34.out).mono ?_); rintro e w41 ⟨v750, rfl, ho0, hb⟩; refine ⟨_, rfl, ?_⟩; have n0_ := Aside0.mk (Kd.R_elder' (by (with_reducible repeat (first | apply Kd.R_alloc | apply Kd.R_drewN | apply Kd.R_drew)); exact HO_738001.out) (Kd.R_base ho0) hb); have n1_ := Aside0.mk (Kd.R_elder' (by (with_reducible repeat (first | apply Kd.R_alloc | apply Kd.R_drewN | apply Kd.R_drew)); exact HO_744001.out) (Kd.R_base ho0) hb); have n2_ := Aside0.mk (Kd.R_lower (Kd.R_new' (Kd.R_new' ho0 (Kd.R_lt (by (with_reducible repeat (first | apply Kd.R_alloc | apply Kd.R_drewN | apply Kd.R_drew)); exact HO_738001.out))) (Kd.R_lt (by (with_reducible repeat (first | apply Kd.R_alloc | apply Kd.R_drewN | apply Kd.R_drew)); exact HO_744001.out))) (below_size (by repeat (first | (with_reducible first | exact HB.out | apply below_alloc | apply pw_below_drewN | apply below_drew1 | refine below_set ?_ GE737.out | refine below_set ?_ GE743.out) | exact HB.out)))); have n3_ := Aside0.mk (blk_below (g := gb737) (o := .cells #[.int .i64 t732, .slice Ao8 t733.length co8] 30 (0, 0)) (by (with_reducible repeat (first | refine blk_drewN ?_ _ | refine blk_drew ?_ | refine blk_alloc ?_ _)); exact BK737.out) hb); have n4_ := Aside0.mk (blk_below (g := gb743) (o := .cells #[.int .i64 t738, .slice Ao13 t739.length co13] 30 (0, 0)) (by (with_reducible repeat (first | refine blk_drewN ?_ _ | refine blk_drew ?_ | refine blk_alloc ?_ _)); exact BK743.out) hb); have n5_ := Aside0.mk (below_step (by repeat (first | (with_reducible first | exact HB.out | apply below_alloc | apply pw_below_drewN | apply below_drew1 | refine below_set ?_ GE737.out | refine below_set ?_ GE743.out) | exact HB.out)) hb); clear HO_738001; clear HO_744001; clear BK737; clear BK743; clear HB; have HO_738001 := n0_; have HO_744001 := n1_; have HO751 := n2_; have BK737 := n3_; have BK743 := n4_; have HB := n5_; clear n0_ n1_ n2_ n3_ n4_ n5_; (try clear hb); (try clear hb2); (try clear hk); (try clear hi); (try clear ho0)) | ((with_reducible refine gate_dst (N := 9) rfl ?_); refine box_event ?hg (N := 9) ?hd (cs := #[.int .i64 0, .slice none 0 0]) (t := 30) ?hr ?_; (case hd => rfl); (case hg => rfl); (case hr => first | (go_simp; done) | (go_simp; rfl)); intro gb753 hg w42 hbox hb; have n0_ := Aside0.mk (Kd.R_below (by (with_reducible repeat (first | apply Kd.R_alloc | apply Kd.R_drewN | apply Kd.R_drew)); exact HO_738001.out) hb); have n1_ := Aside0.mk (Kd.R_below (by (with_reducible repeat (first | apply Kd.R_alloc | apply Kd.R_drewN | apply Kd.R_drew)); exact HO_744001.out) hb); have n2_ := Aside0.mk (Kd.R_below (by (with_reducible repeat (first | apply Kd.R_alloc | apply Kd.R_drewN | apply Kd.R_drew)); exact HO751.out) hb); have n3_ := Aside0.mk (blk_below (g := gb737) (o := .cells #[.int .i64 t732, .slice Ao8 t733.length co8] 30 (0, 0)) (by (with_reducible repeat (first | refine blk_drewN ?_ _ | refine blk_drew ?_ | refine blk_alloc ?_ _)); exact BK737.out) hb); have n4_ := Aside0.mk (blk_below (g := gb743) (o := .cells #[.int .i64 t738, .slice Ao13 t739.length co13] 30 (0, 0)) (by (with_reducible repeat (first | refine blk_drewN ?_ _ | refine blk_drew ?_ | refine blk_alloc ?_ _)); exact BK743.out) hb); have n5_ := Aside0.mk (below_step (by repeat (first | (with_reducible first | exact HB.out | apply below_alloc | apply pw_below_drewN | apply below_drew1 | refine below_set ?_ GE737.out | refine below_set ?_ GE743.out) | exact HB.out)) hb); have n6_ := Aside0.mk (hbox); have n7_ := Aside0.mk ((by rw [hg]; exact (below_size (by repeat (first | (with_reducible first | exact HB.out | apply below_alloc | apply pw_below_drewN | apply below_drew1 | refine below_set ?_ GE737.out | refine below_set ?_ GE743.out) | exact HB.out))) : w.heap.size ≤ gb753)); have n8_ := Aside0.mk ((by rw [hg]; exact (below_size (by repeat (first | (with_reducible first | exact HB.out | apply below_alloc | apply pw_below_drewN | apply below_drew1 | refine below_set ?_ GE737.out | refine below_set ?_ GE743.out) | exact HB.out))) : w.heap.size ≤ gb753)); have n9_ := Aside0.mk ((by rw [hg]; exact Nat.ne_of_lt (blk_lt (g := gb737) (o := .cells #[.int .i64 t732, .slice Ao8 t733.length co8] 30 (0, 0)) (by (with_reducible repeat (first | refine blk_drewN ?_ _ | refine blk_drew ?_ | refine blk_alloc ?_ _)); exact BK737.out)) : gb737 ≠ gb753)); have n10_ := Aside0.mk ((by rw [hg]; exact Nat.ne_of_gt (blk_lt (g := gb737) (o := .cells #[.int .i64 t732, .slice Ao8 t733.length co8] 30 (0, 0)) (by (with_reducible repeat (first | refine blk_drewN ?_ _ | refine blk_drew ?_ | refine blk_alloc ?_ _)); exact BK737.out)) : gb753 ≠ gb737)); have n11_ := Aside0.mk ((by rw [hg]; exact Nat.ne_of_lt (blk_lt (g := gb743) (o := .cells #[.int .i64 t738, .slice Ao13 t739.length co13] 30 (0, 0)) (by (with_reducible repeat (first | refine blk_drewN ?_ _ | refine blk_drew ?_ | refine blk_alloc ?_ _)); exact BK743.out)) : gb743 ≠ gb753)); have n12_ := Aside0.mk ((by rw [hg]; exact Nat.ne_of_gt (blk_lt (g := gb743) (o := .cells #[.int .i64 t738, .slice Ao13 t739.length co13] 30 (0, 0)) (by (with_reducible repeat (first | refine blk_drewN ?_ _ | refine blk_drew ?_ | refine blk_alloc ?_ _)); exact BK743.out)) : gb753 ≠ gb743)); clear HO_738001; clear HO_744001; clear HO751; clear BK737; clear BK743; clear HB; have HO_738001 := n0_; have HO_744001 := n1_; have HO751 := n2_; have BK737 := n3_; have BK743 := n4_; have HB := n5_; have BK753 := n6_; have GW753 := n7_; have GE753 := n8_; have NB737_753 := n9_; have NB753_737 := n10_; have NB743_753 := n11_; have NB753_743 := n12_; clear n0_ n1_ n2_ n3_ n4_ n5_ n6_ n7_ n8_ n9_ n10_ n11_ n12_; clear hb hbox hg; have hnb43 := NB753_737.out; have hnc43 := NB737_753.out; have hnb44 := NB753_743.out; have hnc44 := NB743_753.out; have hcz45_0 : w42.cell? ⟨gb753, 0, none⟩ = some (.int .i64 0) := (blk_cell BK753.out 0).trans rfl; have hcz45_1 : w42.cell? ⟨gb753, 1, none⟩ = some (.slice none 0 0) := (blk_cell BK753.out 1).trans rfl; have hfz45_0 := blk_frozen BK753.out 0; have hfz45_1 := blk_frozen BK753.out 1; obtain ⟨Ao46, co46, eo46⟩ := Kd.R_slice HO751.out; subst eo46))
            (try simp only [Act.put, List.setIfInBounds_toArray, List.set_cons_zero, List.set_cons_succ])
            go_cut [54] (fun v54 wc => ∃ (kq : Nat) (x54_34 : Bool), v54 = .bool x54_34 ∧ Aside0 (laws_FnExactPairParty.j1 kq t745 x54_34 t738 t746 = some r) ∧ Aside0 (kq ≤ kj3) ∧ Aside0 (Kd.R k63 63 wc w.heap.size (fun k_ => some k_ ≠ ((.slice Ao13 t739.length co13) : Value).ownBlock ∧ some k_ ≠ ((.slice Ao46 t749.length co46) : Value).ownBlock) (.slice Ao8 t733.length co8) t733) ∧ Aside0 (Kd.R k63 63 wc w.heap.size (fun k_ => some k_ ≠ ((.slice Ao8 t733.length co8) : Value).ownBlock ∧ some k_ ≠ ((.slice Ao46 t749.length co46) : Value).ownBlock) (.slice Ao13 t739.length co13) t746) ∧ Aside0 (Kd.R k63 63 wc w.heap.size (fun k_ => some k_ ≠ ((.slice Ao8 t733.length co8) : Value).ownBlock ∧ some k_ ≠ ((.slice Ao13 t739.length co13) : Value).ownBlock) (.slice Ao46 t749.length co46) t749) ∧ Aside0 (wc.heap[gb737]? = some (.cells #[.int .i64 t732, (.slice Ao8 t733.length co8)] 30 (0, 0))) ∧ Aside0 (wc.heap[gb743]? = some (.cells #[.int .i64 t738, (.slice Ao13 t739.length co13)] 30 (0, 0))) ∧ Aside0 (wc.heap[gb753]? = some (.cells #[.int .i64 t748, (.slice Ao46 t749.length co46)] 30 (0, 0))) ∧ Aside0 (Below w.heap.size w wc))
            case first =>
              have H := HC35.out
              clear HC35
              replace H := Option.bind_eq_some_iff.mp H
              obtain ⟨t754, A470, H⟩ := H
              replace H : (if t754 = true then (laws_FnExactPairParty.j1 kj3 t745 (t752 != t736) t738 t746) else (laws_FnExactPairParty.j1 kj3 t745 true t738 t746)) = some r := H
              have A47 := Aside0.mk A470
              clear A470
              by_cases c48 : t754 = true
              · subst c48
                have H1 : (laws_FnExactPairParty.j1 kj3 t745 (t752 != t736) t738 t746) = some r := by rw [if_pos rfl] at H; exact H
                clear H
                have H := H1
                clear H1
                have H' := Aside0.mk H
                clear H
                have hnb49 := NB753_737.out
                have hnc49 := NB737_753.out
                have hnb50 := NB753_743.out
                have hnc50 := NB743_753.out
                have hcz51_0 : w42.cell? ⟨gb753, 0, none⟩ = some (.int .i64 0) := (blk_cell BK753.out 0).trans rfl
                have hcz51_1 : w42.cell? ⟨gb753, 1, none⟩ = some (.slice none 0 0) := (blk_cell BK753.out 1).trans rfl
                have hfz51_0 := blk_frozen BK753.out 0
                have hfz51_1 := blk_frozen BK753.out 1
                have hnb52 := NB737_743.out
                have hnc52 := NB743_737.out
                have hcz53_0 : w42.cell? ⟨gb737, 0, none⟩ = some (.int .i64 t732) := (blk_cell BK737.out 0).trans rfl
                have hcz53_1 : w42.cell? ⟨gb737, 1, none⟩ = some (.slice Ao8 t733.length co8) := (blk_cell BK737.out 1).trans rfl
                have hfz53_0 := blk_frozen BK737.out 0
                have hfz53_1 := blk_frozen BK737.out 1
                go_wp2_with (first | ((with_reducible refine gate_callee (f := 15) rfl ?_); refine goesL_ (some 48) rfl rfl Try.func15 (by kernel_rfl) rfl #[.agg #[.int .i64 t748, .slice Ao46 t749.length co46], .agg #[.int .i64 t732, .slice Ao8 t733.length co8]] rfl (by (try simp only [List.map_toArray, List.map_cons, List.map_nil]); first | done | rfl | (simp only [List.length_drop, List.length_take]; rfl)) ?_; (with_reducible refine (laws_eqParty.calls kj3 t748 _ _ t749 t732 _ _ t733 true _ ?side1 ?side2 ?side3 ?side4 A47.out).mono ?_); (case side1 => refine (Kd.R_reads' (e := 63) (base := w.heap.size) (ok := fun k_ => ((True ∧ some k_ ≠ (.slice Ao8 t733.length co8 : Value).ownBlock) ∧ some k_ ≠ (.slice Ao13 t739.length co13 : Value).ownBlock)) (n := t749.length) (c := co46) ?_).2.2; exact (by (with_reducible repeat (first | apply Kd.R_alloc | apply Kd.R_drewN | apply Kd.R_drew)); exact (Kd.R_mono (Kd.R_far (p := ⟨gb753, 1, none⟩) (Kd.R_far (p := ⟨gb753, 0, none⟩) (Kd.R_types HO751.out BK753.out (by decide)) (fun _ hk => hk.2) (.int .i64 t748)) (fun _ hk => hk.2) (.slice Ao46 t749.length co46)) (fun _ h_ => h_.1)))); (case side2 => exact (Kd.R_reads' HO751.out).2.1); (case side3 => refine (Kd.R_reads' (e := 63) (base := w.heap.size) (ok := fun k_ => (some k_ ≠ (.slice Ao13 t739.length co13 : Value).ownBlock ∧ some k_ ≠ (.slice Ao46 t749.length co46 : Value).ownBlock)) (n := t733.length) (c := co8) ?_).2.2; exact (by (with_reducible repeat (first | apply Kd.R_alloc | apply Kd.R_drewN | apply Kd.R_drew)); exact (Kd.R_mono (Kd.R_far (p := ⟨gb753, 1, none⟩) (Kd.R_far (p := ⟨gb753, 0, none⟩) (Kd.R_types HO_738001.out BK753.out (by decide)) (fun _ hk => hk.2) (.int .i64 t748)) (fun _ hk => hk.2) (.slice Ao46 t749.length co46)) (fun _ h_ => h_.1)))); (case side4 => exact (Kd.R_reads' HO_738001.out).2.1); rintro e w54 ⟨rfl, hb⟩; refine ⟨_, rfl, ?_⟩; have n0_ := Aside0.mk (Kd.R_below (by (with_reducible repeat (first | apply Kd.R_alloc | apply Kd.R_drewN | apply Kd.R_drew)); exact (Kd.R_mono (Kd.R_far (p := ⟨gb753, 1, none⟩) (Kd.R_far (p := ⟨gb753, 0, none⟩) (Kd.R_types HO_738001.out BK753.out (by decide)) (fun _ hk => hk.2) (.int .i64 t748)) (fun _ hk => hk.2) (.slice Ao46 t749.length co46)) (fun _ h_ => h_.1))) hb); have n1_ := Aside0.mk (Kd.R_below (by (with_reducible repeat (first | apply Kd.R_alloc | apply Kd.R_drewN | apply Kd.R_drew)); exact (Kd.R_mono (Kd.R_far (p := ⟨gb753, 1, none⟩) (Kd.R_far (p := ⟨gb753, 0, none⟩) (Kd.R_types HO_744001.out BK753.out (by decide)) (fun _ hk => hk.2) (.int .i64 t748)) (fun _ hk => hk.2) (.slice Ao46 t749.length co46)) (fun _ h_ => h_.1))) hb); have n2_ := Aside0.mk (Kd.R_below (by (with_reducible repeat (first | apply Kd.R_alloc | apply Kd.R_drewN | apply Kd.R_drew)); exact (Kd.R_mono (Kd.R_far (p := ⟨gb753, 1, none⟩) (Kd.R_far (p := ⟨gb753, 0, none⟩) (Kd.R_types HO751.out BK753.out (by decide)) (fun _ hk => hk.2) (.int .i64 t748)) (fun _ hk => hk.2) (.slice Ao46 t749.length co46)) (fun _ h_ => h_.1))) hb); have n3_ := Aside0.mk (blk_below (g := gb737) (o := .cells #[.int .i64 t732, .slice Ao8 t733.length co8] 30 (0, 0)) (by (with_reducible repeat (first | refine blk_drewN ?_ _ | refine blk_drew ?_ | refine blk_alloc ?_ _)); refine blk_far ?_ NB737_753.out _; (with_reducible repeat (first | refine blk_drewN ?_ _ | refine blk_drew ?_ | refine blk_alloc ?_ _)); refine blk_far ?_ NB737_753.out _; (with_reducible repeat (first | refine blk_drewN ?_ _ | refine blk_drew ?_ | refine blk_alloc ?_ _)); exact BK737.out) hb); have n4_ := Aside0.mk (blk_below (g := gb743) (o := .cells #[.int .i64 t738, .slice Ao13 t739.length co13] 30 (0, 0)) (by (with_reducible repeat (first | refine blk_drewN ?_ _ | refine blk_drew ?_ | refine blk_alloc ?_ _)); refine blk_far ?_ NB743_753.out _; (with_reducible repeat (first | refine blk_drewN ?_ _ | refine blk_drew ?_ | refine blk_alloc ?_ _)); refine blk_far ?_ NB743_753.out _; (with_reducible repeat (first | refine blk_drewN ?_ _ | refine blk_drew ?_ | refine blk_alloc ?_ _)); exact BK743.out) hb); have n5_ := Aside0.mk (blk_below (g := gb753) (o := .cells #[.int .i64 t748, .slice Ao46 t749.length co46] 30 (0, 0)) (by (with_reducible repeat (first | refine blk_drewN ?_ _ | refine blk_drew ?_ | refine blk_alloc ?_ _)); refine blk_put (cs := #[.int .i64 t748, .slice none 0 0]) ?_ 1 _ rfl; (with_reducible repeat (first | refine blk_drewN ?_ _ | refine blk_drew ?_ | refine blk_alloc ?_ _)); refine blk_put (cs := #[.int .i64 0, .slice none 0 0]) ?_ 0 _ rfl; (with_reducible repeat (first | refine blk_drewN ?_ _ | refine blk_drew ?_ | refine blk_alloc ?_ _)); exact BK753.out) hb); have n6_ := Aside0.mk (below_step (by repeat (first | (with_reducible first | exact HB.out | apply below_alloc | apply pw_below_drewN | apply below_drew1 | refine below_set ?_ GE737.out | refine below_set ?_ GE743.out | refine below_set ?_ GE753.out) | exact HB.out)) hb); clear HO_738001; clear HO_744001; clear HO751; clear BK737; clear BK743; clear BK753; clear HB; have HO_738001 := n0_; have HO_744001 := n1_; have HO751 := n2_; have BK737 := n3_; have BK743 := n4_; have BK753 := n5_; have HB := n6_; clear n0_ n1_ n2_ n3_ n4_ n5_ n6_; (try clear hb); (try clear hb2); (try clear hk); (try clear hi)))
                go_meet
                case rel => exact ⟨_, ((t752 != t736)), (by first | rfl | (simp; done) | (simp [*]; done)), H', ⟨by have := HJ3.out; first | omega | exact Nat.le_refl _⟩, ⟨by (with_reducible repeat (first | apply Kd.R_alloc | apply Kd.R_drewN | apply Kd.R_drew)); exact HO_738001.out⟩, ⟨by (with_reducible repeat (first | apply Kd.R_alloc | apply Kd.R_drewN | apply Kd.R_drew)); exact HO_744001.out⟩, ⟨by (with_reducible repeat (first | apply Kd.R_alloc | apply Kd.R_drewN | apply Kd.R_drew)); exact Kd.R_mono HO751.out (fun _ hk => ⟨hk.1.2, hk.2⟩)⟩, ⟨by (with_reducible repeat (first | refine blk_drewN ?_ _ | refine blk_drew ?_ | refine blk_alloc ?_ _)); exact BK737.out⟩, ⟨by (with_reducible repeat (first | refine blk_drewN ?_ _ | refine blk_drew ?_ | refine blk_alloc ?_ _)); exact BK743.out⟩, ⟨by (with_reducible repeat (first | refine blk_drewN ?_ _ | refine blk_drew ?_ | refine blk_alloc ?_ _)); exact BK753.out⟩, ⟨by repeat (first | (with_reducible first | exact HB.out | apply below_alloc | apply pw_below_drewN | apply below_drew1 | refine below_set ?_ GE737.out | refine below_set ?_ GE743.out | refine below_set ?_ GE753.out) | exact HB.out)⟩⟩
              · replace c48 := Bool.eq_false_iff.mpr c48
                subst c48
                have H1 : (laws_FnExactPairParty.j1 kj3 t745 true t738 t746) = some r := by rw [if_neg (show ¬ (false = true) by decide)] at H; exact H
                clear H
                have H := H1
                clear H1
                have H' := Aside0.mk H
                clear H
                have hnb55 := NB753_737.out
                have hnc55 := NB737_753.out
                have hnb56 := NB753_743.out
                have hnc56 := NB743_753.out
                have hcz57_0 : w42.cell? ⟨gb753, 0, none⟩ = some (.int .i64 0) := (blk_cell BK753.out 0).trans rfl
                have hcz57_1 : w42.cell? ⟨gb753, 1, none⟩ = some (.slice none 0 0) := (blk_cell BK753.out 1).trans rfl
                have hfz57_0 := blk_frozen BK753.out 0
                have hfz57_1 := blk_frozen BK753.out 1
                have hnb58 := NB737_743.out
                have hnc58 := NB743_737.out
                have hcz59_0 : w42.cell? ⟨gb737, 0, none⟩ = some (.int .i64 t732) := (blk_cell BK737.out 0).trans rfl
                have hcz59_1 : w42.cell? ⟨gb737, 1, none⟩ = some (.slice Ao8 t733.length co8) := (blk_cell BK737.out 1).trans rfl
                have hfz59_0 := blk_frozen BK737.out 0
                have hfz59_1 := blk_frozen BK737.out 1
                go_wp2_with (first | ((with_reducible refine gate_callee (f := 15) rfl ?_); refine goesL_ (some 48) rfl rfl Try.func15 (by kernel_rfl) rfl #[.agg #[.int .i64 t748, .slice Ao46 t749.length co46], .agg #[.int .i64 t732, .slice Ao8 t733.length co8]] rfl (by (try simp only [List.map_toArray, List.map_cons, List.map_nil]); first | done | rfl | (simp only [List.length_drop, List.length_take]; rfl)) ?_; (with_reducible refine (laws_eqParty.calls kj3 t748 _ _ t749 t732 _ _ t733 false _ ?side1 ?side2 ?side3 ?side4 A47.out).mono ?_); (case side1 => refine (Kd.R_reads' (e := 63) (base := w.heap.size) (ok := fun k_ => ((True ∧ some k_ ≠ (.slice Ao8 t733.length co8 : Value).ownBlock) ∧ some k_ ≠ (.slice Ao13 t739.length co13 : Value).ownBlock)) (n := t749.length) (c := co46) ?_).2.2; exact (by (with_reducible repeat (first | apply Kd.R_alloc | apply Kd.R_drewN | apply Kd.R_drew)); exact (Kd.R_mono (Kd.R_far (p := ⟨gb753, 1, none⟩) (Kd.R_far (p := ⟨gb753, 0, none⟩) (Kd.R_types HO751.out BK753.out (by decide)) (fun _ hk => hk.2) (.int .i64 t748)) (fun _ hk => hk.2) (.slice Ao46 t749.length co46)) (fun _ h_ => h_.1)))); (case side2 => exact (Kd.R_reads' HO751.out).2.1); (case side3 => refine (Kd.R_reads' (e := 63) (base := w.heap.size) (ok := fun k_ => (some k_ ≠ (.slice Ao13 t739.length co13 : Value).ownBlock ∧ some k_ ≠ (.slice Ao46 t749.length co46 : Value).ownBlock)) (n := t733.length) (c := co8) ?_).2.2; exact (by (with_reducible repeat (first | apply Kd.R_alloc | apply Kd.R_drewN | apply Kd.R_drew)); exact (Kd.R_mono (Kd.R_far (p := ⟨gb753, 1, none⟩) (Kd.R_far (p := ⟨gb753, 0, none⟩) (Kd.R_types HO_738001.out BK753.out (by decide)) (fun _ hk => hk.2) (.int .i64 t748)) (fun _ hk => hk.2) (.slice Ao46 t749.length co46)) (fun _ h_ => h_.1)))); (case side4 => exact (Kd.R_reads' HO_738001.out).2.1); rintro e w60 ⟨rfl, hb⟩; refine ⟨_, rfl, ?_⟩; have n0_ := Aside0.mk (Kd.R_below (by (with_reducible repeat (first | apply Kd.R_alloc | apply Kd.R_drewN | apply Kd.R_drew)); exact (Kd.R_mono (Kd.R_far (p := ⟨gb753, 1, none⟩) (Kd.R_far (p := ⟨gb753, 0, none⟩) (Kd.R_types HO_738001.out BK753.out (by decide)) (fun _ hk => hk.2) (.int .i64 t748)) (fun _ hk => hk.2) (.slice Ao46 t749.length co46)) (fun _ h_ => h_.1))) hb); have n1_ := Aside0.mk (Kd.R_below (by (with_reducible repeat (first | apply Kd.R_alloc | apply Kd.R_drewN | apply Kd.R_drew)); exact (Kd.R_mono (Kd.R_far (p := ⟨gb753, 1, none⟩) (Kd.R_far (p := ⟨gb753, 0, none⟩) (Kd.R_types HO_744001.out BK753.out (by decide)) (fun _ hk => hk.2) (.int .i64 t748)) (fun _ hk => hk.2) (.slice Ao46 t749.length co46)) (fun _ h_ => h_.1))) hb); have n2_ := Aside0.mk (Kd.R_below (by (with_reducible repeat (first | apply Kd.R_alloc | apply Kd.R_drewN | apply Kd.R_drew)); exact (Kd.R_mono (Kd.R_far (p := ⟨gb753, 1, none⟩) (Kd.R_far (p := ⟨gb753, 0, none⟩) (Kd.R_types HO751.out BK753.out (by decide)) (fun _ hk => hk.2) (.int .i64 t748)) (fun _ hk => hk.2) (.slice Ao46 t749.length co46)) (fun _ h_ => h_.1))) hb); have n3_ := Aside0.mk (blk_below (g := gb737) (o := .cells #[.int .i64 t732, .slice Ao8 t733.length co8] 30 (0, 0)) (by (with_reducible repeat (first | refine blk_drewN ?_ _ | refine blk_drew ?_ | refine blk_alloc ?_ _)); refine blk_far ?_ NB737_753.out _; (with_reducible repeat (first | refine blk_drewN ?_ _ | refine blk_drew ?_ | refine blk_alloc ?_ _)); refine blk_far ?_ NB737_753.out _; (with_reducible repeat (first | refine blk_drewN ?_ _ | refine blk_drew ?_ | refine blk_alloc ?_ _)); exact BK737.out) hb); have n4_ := Aside0.mk (blk_below (g := gb743) (o := .cells #[.int .i64 t738, .slice Ao13 t739.length co13] 30 (0, 0)) (by (with_reducible repeat (first | refine blk_drewN ?_ _ | refine blk_drew ?_ | refine blk_alloc ?_ _)); refine blk_far ?_ NB743_753.out _; (with_reducible repeat (first | refine blk_drewN ?_ _ | refine blk_drew ?_ | refine blk_alloc ?_ _)); refine blk_far ?_ NB743_753.out _; (with_reducible repeat (first | refine blk_drewN ?_ _ | refine blk_drew ?_ | refine blk_alloc ?_ _)); exact BK743.out) hb); have n5_ := Aside0.mk (blk_below (g := gb753) (o := .cells #[.int .i64 t748, .slice Ao46 t749.length co46] 30 (0, 0)) (by (with_reducible repeat (first | refine blk_drewN ?_ _ | refine blk_drew ?_ | refine blk_alloc ?_ _)); refine blk_put (cs := #[.int .i64 t748, .slice none 0 0]) ?_ 1 _ rfl; (with_reducible repeat (first | refine blk_drewN ?_ _ | refine blk_drew ?_ | refine blk_alloc ?_ _)); refine blk_put (cs := #[.int .i64 0, .slice none 0 0]) ?_ 0 _ rfl; (with_reducible repeat (first | refine blk_drewN ?_ _ | refine blk_drew ?_ | refine blk_alloc ?_ _)); exact BK753.out) hb); have n6_ := Aside0.mk (below_step (by repeat (first | (with_reducible first | exact HB.out | apply below_alloc | apply pw_below_drewN | apply below_drew1 | refine below_set ?_ GE737.out | refine below_set ?_ GE743.out | refine below_set ?_ GE753.out) | exact HB.out)) hb); clear HO_738001; clear HO_744001; clear HO751; clear BK737; clear BK743; clear BK753; clear HB; have HO_738001 := n0_; have HO_744001 := n1_; have HO751 := n2_; have BK737 := n3_; have BK743 := n4_; have BK753 := n5_; have HB := n6_; clear n0_ n1_ n2_ n3_ n4_ n5_ n6_; (try clear hb); (try clear hb2); (try clear hk); (try clear hi)))
                go_meet
                case rel => exact ⟨_, (true), (by first | rfl | (simp; done) | (simp [*]; done)), H', ⟨by have := HJ3.out; first | omega | exact Nat.le_refl _⟩, ⟨by (with_reducible repeat (first | apply Kd.R_alloc | apply Kd.R_drewN | apply Kd.R_drew)); exact HO_738001.out⟩, ⟨by (with_reducible repeat (first | apply Kd.R_alloc | apply Kd.R_drewN | apply Kd.R_drew)); exact HO_744001.out⟩, ⟨by (with_reducible repeat (first | apply Kd.R_alloc | apply Kd.R_drewN | apply Kd.R_drew)); exact Kd.R_mono HO751.out (fun _ hk => ⟨hk.1.2, hk.2⟩)⟩, ⟨by (with_reducible repeat (first | refine blk_drewN ?_ _ | refine blk_drew ?_ | refine blk_alloc ?_ _)); exact BK737.out⟩, ⟨by (with_reducible repeat (first | refine blk_drewN ?_ _ | refine blk_drew ?_ | refine blk_alloc ?_ _)); exact BK743.out⟩, ⟨by (with_reducible repeat (first | refine blk_drewN ?_ _ | refine blk_drew ?_ | refine blk_alloc ?_ _)); exact BK753.out⟩, ⟨by repeat (first | (with_reducible first | exact HB.out | apply below_alloc | apply pw_below_drewN | apply below_drew1 | refine below_set ?_ GE737.out | refine below_set ?_ GE743.out | refine below_set ?_ GE753.out) | exact HB.out)⟩⟩
            case rest =>
              clear HC35
              try clear c1
              try clear c2
              try clear p2
              try clear c3
              try clear c4
              try clear c5
              try clear c9
              try clear c11
              try clear c15
              try clear c16
              try clear c20
              try clear c24
              try clear c27
              try clear c27b0
              try clear c28
              try clear c30
              try clear c31
              try clear c33
              try clear c33b0
              try clear c33b1
              try clear c36
              try clear c37
              try clear c43
              try clear c44
              try clear c48
              try clear c49
              try clear c50
              try clear c52
              try clear c55
              try clear c56
              try clear c58
              try clear hcz12_0
              try clear hcz12_1
              try clear hcz17_0
              try clear hcz17_1
              try clear hcz18_0
              try clear hcz18_1
              try clear hcz21_0
              try clear hcz21_1
              try clear hcz22_0
              try clear hcz22_1
              try clear hcz29_0
              try clear hcz29_1
              try clear hcz31_0
              try clear hcz31_1
              try clear hcz37_0
              try clear hcz37_1
              try clear hcz39_0
              try clear hcz39_1
              try clear hcz45_0
              try clear hcz45_1
              try clear hcz51_0
              try clear hcz51_1
              try clear hcz53_0
              try clear hcz53_1
              try clear hcz57_0
              try clear hcz57_1
              try clear hcz59_0
              try clear hcz59_1
              try clear hcz7_0
              try clear hcz7_1
              try clear hfz12_0
              try clear hfz12_1
              try clear hfz17_0
              try clear hfz17_1
              try clear hfz18_0
              try clear hfz18_1
              try clear hfz21_0
              try clear hfz21_1
              try clear hfz22_0
              try clear hfz22_1
              try clear hfz29_0
              try clear hfz29_1
              try clear hfz31_0
              try clear hfz31_1
              try clear hfz37_0
              try clear hfz37_1
              try clear hfz39_0
              try clear hfz39_1
              try clear hfz45_0
              try clear hfz45_1
              try clear hfz51_0
              try clear hfz51_1
              try clear hfz53_0
              try clear hfz53_1
              try clear hfz57_0
              try clear hfz57_1
              try clear hfz59_0
              try clear hfz59_1
              try clear hfz7_0
              try clear hfz7_1
              try clear p2
              obtain ⟨kq, x54_34, rfl, HA, HJ34, HO_738001, HO_744001, HO_754001, BK737, BK743, BK753, HB⟩ := hcut
              have hl744001_34 := (Kd.R_reads' HO_744001.out).1
              rw [hl744001_34] at HO_744001
              (try simp only [hl744001_34])
              (try simp only [hl744001_34] at BK737)
              (try simp only [hl744001_34] at BK743)
              (try simp only [hl744001_34] at BK753)
              (try simp only [hl744001_34] at HO_738001)
              (try simp only [hl744001_34] at HO_754001)
              cases kq with
              | zero => exact absurd HA.out (by simp [laws_FnExactPairParty.j1])
              | succ kj34 =>
                have H := HA.out
                clear HA
                simp only [laws_FnExactPairParty.j1] at H
                by_cases c61 : x54_34 = true
                · subst c61
                  have H1 : (some false) = some r := by rw [if_pos rfl] at H; exact H
                  clear H
                  have H := H1
                  clear H1
                  obtain rfl := Option.some.inj H
                  go_wp2
                  go_ret
                  exact ⟨by first | rfl | (simp [errW_none, errW_some] <;> rfl) | (simp [*, errW_none, errW_some] <;> rfl), by repeat (first | (with_reducible first | exact HB.out | apply below_alloc | apply pw_below_drewN | apply below_drew1 | refine below_set ?_ GE737.out | refine below_set ?_ GE743.out | refine below_set ?_ GE753.out) | exact HB.out)⟩
                · replace c61 := Bool.eq_false_iff.mpr c61
                  subst c61
                  have H1 : ((laws_heldParty.f kj34 t738 t746 1).bind fun t755 => (if t755 < 0 then (some false) else (if t755 = t745 then (some true) else (some false)))) = some r := by rw [if_neg (show ¬ (false = true) by decide)] at H; exact H
                  clear H
                  have H := H1
                  clear H1
                  replace H := Option.bind_eq_some_iff.mp H
                  obtain ⟨t755, A620, H⟩ := H
                  replace H : (if t755 < 0 then (some false) else (if t755 = t745 then (some true) else (some false))) = some r := H
                  have A62 := Aside0.mk A620
                  clear A620
                  by_cases c63 : t755 < 0
                  · rw [if_pos c63] at H
                    have c63b0 : decide (t755 < 0) = true := decide_eq_true c63
                    clear c63
                    obtain rfl := Option.some.inj H
                    have hnb64 := NB743_737.out
                    have hnc64 := NB737_743.out
                    have hnb65 := NB743_753.out
                    have hnc65 := NB753_743.out
                    have hcz66_0 : wc.cell? ⟨gb743, 0, none⟩ = some (.int .i64 t738) := (blk_cell BK743.out 0).trans rfl
                    have hcz66_1 : wc.cell? ⟨gb743, 1, none⟩ = some (.slice Ao13 t746.length co13) := (blk_cell BK743.out 1).trans rfl
                    have hfz66_0 := blk_frozen BK743.out 0
                    have hfz66_1 := blk_frozen BK743.out 1
                    go_wp2_with (first | ((with_reducible refine gate_callee (f := 31) rfl ?_); refine goesL_ (some 57) rfl rfl Try.func31 (by kernel_rfl) rfl #[.agg #[.int .i64 t738, .slice Ao13 t746.length co13], .int .i64 1] rfl (by (try simp only [List.map_toArray, List.map_cons, List.map_nil]); first | done | rfl | (simp only [List.length_drop, List.length_take]; rfl)) ?_; (with_reducible refine (laws_heldParty.calls kj34 t738 _ _ t746 1 t755 _ ?side1 ?side2 A62.out).mono ?_); (case side1 => repeat (first | exact (Kd.R_reads' HO_744001.out).2.2 | (with_reducible refine Kd.C_alloc ?_ _) | (with_reducible refine Kd.C_drewN ?_ _) | (with_reducible refine Kd.C_drew ?_))); (case side2 => exact (Kd.R_reads' HO_744001.out).2.1); rintro e w67 ⟨rfl, hb⟩; refine ⟨_, rfl, ?_⟩; have n0_ := Aside0.mk (Kd.R_below (by (with_reducible repeat (first | apply Kd.R_alloc | apply Kd.R_drewN | apply Kd.R_drew)); exact HO_738001.out) hb); have n1_ := Aside0.mk (Kd.R_below (by (with_reducible repeat (first | apply Kd.R_alloc | apply Kd.R_drewN | apply Kd.R_drew)); exact HO_744001.out) hb); have n2_ := Aside0.mk (Kd.R_below (by (with_reducible repeat (first | apply Kd.R_alloc | apply Kd.R_drewN | apply Kd.R_drew)); exact HO_754001.out) hb); have n3_ := Aside0.mk (blk_below (g := gb737) (o := .cells #[.int .i64 t732, .slice Ao8 t733.length co8] 30 (0, 0)) (by (with_reducible repeat (first | refine blk_drewN ?_ _ | refine blk_drew ?_ | refine blk_alloc ?_ _)); exact BK737.out) hb); have n4_ := Aside0.mk (blk_below (g := gb743) (o := .cells #[.int .i64 t738, .slice Ao13 t746.length co13] 30 (0, 0)) (by (with_reducible repeat (first | refine blk_drewN ?_ _ | refine blk_drew ?_ | refine blk_alloc ?_ _)); exact BK743.out) hb); have n5_ := Aside0.mk (blk_below (g := gb753) (o := .cells #[.int .i64 t748, .slice Ao46 t749.length co46] 30 (0, 0)) (by (with_reducible repeat (first | refine blk_drewN ?_ _ | refine blk_drew ?_ | refine blk_alloc ?_ _)); exact BK753.out) hb); have n6_ := Aside0.mk (below_step (by repeat (first | (with_reducible first | exact HB.out | apply below_alloc | apply pw_below_drewN | apply below_drew1 | refine below_set ?_ GE737.out | refine below_set ?_ GE743.out | refine below_set ?_ GE753.out) | exact HB.out)) hb); clear HO_738001; clear HO_744001; clear HO_754001; clear BK737; clear BK743; clear BK753; clear HB; have HO_738001 := n0_; have HO_744001 := n1_; have HO_754001 := n2_; have BK737 := n3_; have BK743 := n4_; have BK753 := n5_; have HB := n6_; clear n0_ n1_ n2_ n3_ n4_ n5_ n6_; (try clear hb); (try clear hb2); (try clear hk); (try clear hi)))
                    go_ret
                    exact ⟨by first | rfl | (simp [errW_none, errW_some] <;> rfl) | (simp [*, errW_none, errW_some] <;> rfl), by repeat (first | (with_reducible first | exact HB.out | apply below_alloc | apply pw_below_drewN | apply below_drew1 | refine below_set ?_ GE737.out | refine below_set ?_ GE743.out | refine below_set ?_ GE753.out) | exact HB.out)⟩
                  · rw [if_neg c63] at H
                    have c63b0 : decide (t755 < 0) = false := decide_eq_false c63
                    clear c63
                    by_cases c68 : t755 = t745
                    · rw [if_pos c68] at H
                      have c68b0 : (t755 == t745) = true := beq_iff_eq.mpr c68
                      have c68b1 : (t755 != t745) = false := bne_eq_false_iff_eq.mpr c68
                      clear c68
                      obtain rfl := Option.some.inj H
                      have hnb69 := NB743_737.out
                      have hnc69 := NB737_743.out
                      have hnb70 := NB743_753.out
                      have hnc70 := NB753_743.out
                      have hcz71_0 : wc.cell? ⟨gb743, 0, none⟩ = some (.int .i64 t738) := (blk_cell BK743.out 0).trans rfl
                      have hcz71_1 : wc.cell? ⟨gb743, 1, none⟩ = some (.slice Ao13 t746.length co13) := (blk_cell BK743.out 1).trans rfl
                      have hfz71_0 := blk_frozen BK743.out 0
                      have hfz71_1 := blk_frozen BK743.out 1
                      go_wp2_with (first | ((with_reducible refine gate_callee (f := 31) rfl ?_); refine goesL_ (some 57) rfl rfl Try.func31 (by kernel_rfl) rfl #[.agg #[.int .i64 t738, .slice Ao13 t746.length co13], .int .i64 1] rfl (by (try simp only [List.map_toArray, List.map_cons, List.map_nil]); first | done | rfl | (simp only [List.length_drop, List.length_take]; rfl)) ?_; (with_reducible refine (laws_heldParty.calls kj34 t738 _ _ t746 1 t755 _ ?side1 ?side2 A62.out).mono ?_); (case side1 => repeat (first | exact (Kd.R_reads' HO_744001.out).2.2 | (with_reducible refine Kd.C_alloc ?_ _) | (with_reducible refine Kd.C_drewN ?_ _) | (with_reducible refine Kd.C_drew ?_))); (case side2 => exact (Kd.R_reads' HO_744001.out).2.1); rintro e w72 ⟨rfl, hb⟩; refine ⟨_, rfl, ?_⟩; have n0_ := Aside0.mk (Kd.R_below (by (with_reducible repeat (first | apply Kd.R_alloc | apply Kd.R_drewN | apply Kd.R_drew)); exact HO_738001.out) hb); have n1_ := Aside0.mk (Kd.R_below (by (with_reducible repeat (first | apply Kd.R_alloc | apply Kd.R_drewN | apply Kd.R_drew)); exact HO_744001.out) hb); have n2_ := Aside0.mk (Kd.R_below (by (with_reducible repeat (first | apply Kd.R_alloc | apply Kd.R_drewN | apply Kd.R_drew)); exact HO_754001.out) hb); have n3_ := Aside0.mk (blk_below (g := gb737) (o := .cells #[.int .i64 t732, .slice Ao8 t733.length co8] 30 (0, 0)) (by (with_reducible repeat (first | refine blk_drewN ?_ _ | refine blk_drew ?_ | refine blk_alloc ?_ _)); exact BK737.out) hb); have n4_ := Aside0.mk (blk_below (g := gb743) (o := .cells #[.int .i64 t738, .slice Ao13 t746.length co13] 30 (0, 0)) (by (with_reducible repeat (first | refine blk_drewN ?_ _ | refine blk_drew ?_ | refine blk_alloc ?_ _)); exact BK743.out) hb); have n5_ := Aside0.mk (blk_below (g := gb753) (o := .cells #[.int .i64 t748, .slice Ao46 t749.length co46] 30 (0, 0)) (by (with_reducible repeat (first | refine blk_drewN ?_ _ | refine blk_drew ?_ | refine blk_alloc ?_ _)); exact BK753.out) hb); have n6_ := Aside0.mk (below_step (by repeat (first | (with_reducible first | exact HB.out | apply below_alloc | apply pw_below_drewN | apply below_drew1 | refine below_set ?_ GE737.out | refine below_set ?_ GE743.out | refine below_set ?_ GE753.out) | exact HB.out)) hb); clear HO_738001; clear HO_744001; clear HO_754001; clear BK737; clear BK743; clear BK753; clear HB; have HO_738001 := n0_; have HO_744001 := n1_; have HO_754001 := n2_; have BK737 := n3_; have BK743 := n4_; have BK753 := n5_; have HB := n6_; clear n0_ n1_ n2_ n3_ n4_ n5_ n6_; (try clear hb); (try clear hb2); (try clear hk); (try clear hi)))
                      go_ret
                      exact ⟨by first | rfl | (simp [errW_none, errW_some] <;> rfl) | (simp [*, errW_none, errW_some] <;> rfl), by repeat (first | (with_reducible first | exact HB.out | apply below_alloc | apply pw_below_drewN | apply below_drew1 | refine below_set ?_ GE737.out | refine below_set ?_ GE743.out | refine below_set ?_ GE753.out) | exact HB.out)⟩
                    · rw [if_neg c68] at H
                      have c68b0 : (t755 == t745) = false := beq_eq_false_iff_ne.mpr c68
                      have c68b1 : (t755 != t745) = true := bne_iff_ne.mpr c68
                      obtain rfl := Option.some.inj H
                      have hnb73 := NB743_737.out
                      have hnc73 := NB737_743.out
                      have hnb74 := NB743_753.out
                      have hnc74 := NB753_743.out
                      have hcz75_0 : wc.cell? ⟨gb743, 0, none⟩ = some (.int .i64 t738) := (blk_cell BK743.out 0).trans rfl
                      have hcz75_1 : wc.cell? ⟨gb743, 1, none⟩ = some (.slice Ao13 t746.length co13) := (blk_cell BK743.out 1).trans rfl
                      have hfz75_0 := blk_frozen BK743.out 0
                      have hfz75_1 := blk_frozen BK743.out 1
                      go_wp2_with (first | ((with_reducible refine gate_callee (f := 31) rfl ?_); refine goesL_ (some 57) rfl rfl Try.func31 (by kernel_rfl) rfl #[.agg #[.int .i64 t738, .slice Ao13 t746.length co13], .int .i64 1] rfl (by (try simp only [List.map_toArray, List.map_cons, List.map_nil]); first | done | rfl | (simp only [List.length_drop, List.length_take]; rfl)) ?_; (with_reducible refine (laws_heldParty.calls kj34 t738 _ _ t746 1 t755 _ ?side1 ?side2 A62.out).mono ?_); (case side1 => repeat (first | exact (Kd.R_reads' HO_744001.out).2.2 | (with_reducible refine Kd.C_alloc ?_ _) | (with_reducible refine Kd.C_drewN ?_ _) | (with_reducible refine Kd.C_drew ?_))); (case side2 => exact (Kd.R_reads' HO_744001.out).2.1); rintro e w76 ⟨rfl, hb⟩; refine ⟨_, rfl, ?_⟩; have n0_ := Aside0.mk (Kd.R_below (by (with_reducible repeat (first | apply Kd.R_alloc | apply Kd.R_drewN | apply Kd.R_drew)); exact HO_738001.out) hb); have n1_ := Aside0.mk (Kd.R_below (by (with_reducible repeat (first | apply Kd.R_alloc | apply Kd.R_drewN | apply Kd.R_drew)); exact HO_744001.out) hb); have n2_ := Aside0.mk (Kd.R_below (by (with_reducible repeat (first | apply Kd.R_alloc | apply Kd.R_drewN | apply Kd.R_drew)); exact HO_754001.out) hb); have n3_ := Aside0.mk (blk_below (g := gb737) (o := .cells #[.int .i64 t732, .slice Ao8 t733.length co8] 30 (0, 0)) (by (with_reducible repeat (first | refine blk_drewN ?_ _ | refine blk_drew ?_ | refine blk_alloc ?_ _)); exact BK737.out) hb); have n4_ := Aside0.mk (blk_below (g := gb743) (o := .cells #[.int .i64 t738, .slice Ao13 t746.length co13] 30 (0, 0)) (by (with_reducible repeat (first | refine blk_drewN ?_ _ | refine blk_drew ?_ | refine blk_alloc ?_ _)); exact BK743.out) hb); have n5_ := Aside0.mk (blk_below (g := gb753) (o := .cells #[.int .i64 t748, .slice Ao46 t749.length co46] 30 (0, 0)) (by (with_reducible repeat (first | refine blk_drewN ?_ _ | refine blk_drew ?_ | refine blk_alloc ?_ _)); exact BK753.out) hb); have n6_ := Aside0.mk (below_step (by repeat (first | (with_reducible first | exact HB.out | apply below_alloc | apply pw_below_drewN | apply below_drew1 | refine below_set ?_ GE737.out | refine below_set ?_ GE743.out | refine below_set ?_ GE753.out) | exact HB.out)) hb); clear HO_738001; clear HO_744001; clear HO_754001; clear BK737; clear BK743; clear BK753; clear HB; have HO_738001 := n0_; have HO_744001 := n1_; have HO_754001 := n2_; have BK737 := n3_; have BK743 := n4_; have BK753 := n5_; have HB := n6_; clear n0_ n1_ n2_ n3_ n4_ n5_ n6_; (try clear hb); (try clear hb2); (try clear hk); (try clear hi)))
                      go_ret
                      exact ⟨by first | rfl | (simp [errW_none, errW_some] <;> rfl) | (simp [*, errW_none, errW_some] <;> rfl), by repeat (first | (with_reducible first | exact HB.out | apply below_alloc | apply pw_below_drewN | apply below_drew1 | refine below_set ?_ GE737.out | refine below_set ?_ GE743.out | refine below_set ?_ GE753.out) | exact HB.out)⟩
          · rw [if_neg c33] at H
            have c33b0 : (t747 == t745) = false := beq_eq_false_iff_ne.mpr c33
            have c33b1 : (t747 != t745) = true := bne_iff_ne.mpr c33
            obtain rfl := Option.some.inj H
            have hnb77 := NB743_737.out
            have hnc77 := NB737_743.out
            have hcz78_0 : wc.cell? ⟨gb743, 0, none⟩ = some (.int .i64 t738) := (blk_cell BK743.out 0).trans rfl
            have hcz78_1 : wc.cell? ⟨gb743, 1, none⟩ = some (.slice Ao13 t739.length co13) := (blk_cell BK743.out 1).trans rfl
            have hfz78_0 := blk_frozen BK743.out 0
            have hfz78_1 := blk_frozen BK743.out 1
            go_wp2_with (first | ((with_reducible refine gate_callee (f := 30) rfl ?_); refine goesL_ (some 32) rfl rfl Try.func30 (by kernel_rfl) rfl #[.agg #[.int .i64 t738, .slice Ao13 t739.length co13], .int .i64 1] rfl (by (try simp only [List.map_toArray, List.map_cons, List.map_nil]); first | done | rfl | (simp only [List.length_drop, List.length_take]; rfl)) ?_; (with_reducible refine (laws_markParty.calls kj3 t738 (fun k_ => some k_ = (.slice Ao13 t739.length co13 : Value).ownBlock) (.slice Ao13 t739.length co13) t739 1 t745 t746 w _ ?side1 ?side2 A25.out).mono ?_); (case side1 => repeat (first | (with_reducible first | exact HB.out | apply below_alloc | apply pw_below_drewN | apply below_drew1 | refine below_set ?_ GE737.out | refine below_set ?_ GE743.out) | exact HB.out)); (case side2 => exact Kd.R_tight rfl HO_744001.out); rintro e w79 ⟨rfl, hy0, hb, hkp⟩; refine ⟨_, rfl, ?_⟩; have n0_ := Aside0.mk (Kd.R_mono (ok' := fun k_ => some k_ ≠ (.slice Ao13 t739.length co13 : Value).ownBlock) (Kd.R_keptB (HO_738001.out) hkp (fun k_ hk_ hs_ => (hk_) hs_)) (fun k_ hk_ => hk_.1)); have n1_ := Aside0.mk (Kd.R_reok rfl hy0 (fun k_ e_ => HO_744001.out.1 k_ e_)); have n2_ := Aside0.mk (blk_kept (by (with_reducible repeat (first | refine blk_drewN ?_ _ | refine blk_drew ?_ | refine blk_alloc ?_ _)); exact BK737.out) hkp (fun hs_ => (fun e_ => (Kd.R_ne HO_744001.out BK737.out (by decide)) e_) hs_)); have n3_ := Aside0.mk (blk_kept (by (with_reducible repeat (first | refine blk_drewN ?_ _ | refine blk_drew ?_ | refine blk_alloc ?_ _)); exact BK743.out) hkp (fun hs_ => (fun e_ => (Kd.R_ne HO_744001.out BK743.out (by decide)) e_) hs_)); have n4_ := Aside0.mk (hb); clear HO_738001; clear HO_744001; clear BK737; clear BK743; clear HB; have HO_738001 := n0_; have HO_744001 := n1_; have BK737 := n2_; have BK743 := n3_; have HB := n4_; clear n0_ n1_ n2_ n3_ n4_; (try clear hb); (try clear hkp); (try clear hy0); have hcz80_0 : w79.cell? ⟨gb743, 0, none⟩ = some (.int .i64 t738) := (blk_cell BK743.out 0).trans rfl; have hcz80_1 : w79.cell? ⟨gb743, 1, none⟩ = some (.slice Ao13 t739.length co13) := (blk_cell BK743.out 1).trans rfl; have hfz80_0 := blk_frozen BK743.out 0; have hfz80_1 := blk_frozen BK743.out 1) | ((with_reducible refine gate_callee (f := 31) rfl ?_); refine goesL_ (some 35) rfl rfl Try.func31 (by kernel_rfl) rfl #[.agg #[.int .i64 t738, .slice Ao13 t746.length co13], .int .i64 1] rfl (by (try simp only [List.map_toArray, List.map_cons, List.map_nil]); first | done | (rw [show t746.length = t739.length from (Kd.R_reads' HO_744001.out).1.symm] <;> rfl) | rfl | (simp only [List.length_drop, List.length_take]; rfl)) ?_; (with_reducible refine (laws_heldParty.calls kj3 t738 _ _ t746 1 t747 _ ?side1 ?side2 A26.out).mono ?_); (case side1 => repeat (first | exact (Kd.R_reads' HO_744001.out).2.2 | (with_reducible refine Kd.C_alloc ?_ _) | (with_reducible refine Kd.C_drewN ?_ _) | (with_reducible refine Kd.C_drew ?_))); (case side2 => rw [show t746.length = t739.length from (Kd.R_reads' HO_744001.out).1.symm]; exact (Kd.R_reads' HO_744001.out).2.1); rintro e w81 ⟨rfl, hb⟩; refine ⟨_, rfl, ?_⟩; have n0_ := Aside0.mk (Kd.R_below (by (with_reducible repeat (first | apply Kd.R_alloc | apply Kd.R_drewN | apply Kd.R_drew)); exact HO_738001.out) hb); have n1_ := Aside0.mk (Kd.R_below (by (with_reducible repeat (first | apply Kd.R_alloc | apply Kd.R_drewN | apply Kd.R_drew)); exact HO_744001.out) hb); have n2_ := Aside0.mk (blk_below (g := gb737) (o := .cells #[.int .i64 t732, .slice Ao8 t733.length co8] 30 (0, 0)) (by (with_reducible repeat (first | refine blk_drewN ?_ _ | refine blk_drew ?_ | refine blk_alloc ?_ _)); exact BK737.out) hb); have n3_ := Aside0.mk (blk_below (g := gb743) (o := .cells #[.int .i64 t738, .slice Ao13 t739.length co13] 30 (0, 0)) (by (with_reducible repeat (first | refine blk_drewN ?_ _ | refine blk_drew ?_ | refine blk_alloc ?_ _)); exact BK743.out) hb); have n4_ := Aside0.mk (below_step (by repeat (first | (with_reducible first | exact HB.out | apply below_alloc | apply pw_below_drewN | apply below_drew1 | refine below_set ?_ GE737.out | refine below_set ?_ GE743.out) | exact HB.out)) hb); clear HO_738001; clear HO_744001; clear BK737; clear BK743; clear HB; have HO_738001 := n0_; have HO_744001 := n1_; have BK737 := n2_; have BK743 := n3_; have HB := n4_; clear n0_ n1_ n2_ n3_ n4_; (try clear hb); (try clear hb2); (try clear hk); (try clear hi)))
            go_ret
            exact ⟨by first | rfl | (simp [errW_none, errW_some] <;> rfl) | (simp [*, errW_none, errW_some] <;> rfl), by repeat (first | (with_reducible first | exact HB.out | apply below_alloc | apply pw_below_drewN | apply below_drew1 | refine below_set ?_ GE737.out | refine below_set ?_ GE743.out) | exact HB.out)⟩

/-- THE ONE PURE STATEMENT of laws_FnExactPairParty: yours. -/
def laws_FnExactPairParty.Pure : Prop := ∀ (a0 : Int), (Lit.int .i64 a0).wf = true → ∃ k, laws_FnExactPairParty.f k a0 = some true
theorem laws_FnExactPairParty.walk (P : laws_FnExactPairParty.Pure) (a0 : Int) (w : World) (w0 : (Lit.int .i64 a0).wf = true) :
    Calls Try.prog 9 #[.int .i64 a0] w fun e w' => e = .returned (.bool true) ∧ Below w.heap.size w w' := by
  obtain ⟨k, h⟩ := P a0 w0
  refine (laws_FnExactPairParty.calls k a0 true w h).mono ?_
  rintro e w' ⟨rfl, hd⟩
  exact ⟨rfl, hd⟩

end Go.Proofs.Ytipblaifgpnebaa.Q
