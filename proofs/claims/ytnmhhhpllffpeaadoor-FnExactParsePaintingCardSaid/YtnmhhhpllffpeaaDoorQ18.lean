import Derived.Test.YtnmhhhpllffpeaaDoorQ0
import Derived.Test.YtnmhhhpllffpeaaDoorQ6
import Derived.Test.YtnmhhhpllffpeaaDoorQ10
import Derived.Test.YtnmhhhpllffpeaaDoorParse
import Derived.Test.YtnmhhhpllffpeaaDoorQ5
import Derived.Test.YtnmhhhpllffpeaaDoorQ13
import Derived.Test.YtnmhhhpllffpeaaDoorQ15
import Derived.Test.YtnmhhhpllffpeaaDoorQ17
namespace Go.Proofs.YtnmhhhpllffpeaaDoor.Q
open Go.RowKit Go.Proofs.YtnmhhhpllffpeaaDoorW.PrintWords Go.Proofs.YtnmhhhpllffpeaaDoorW.PrintLast Go.Proofs.YtnmhhhpllffpeaaDoorW.PrintMore
attribute [local go_sem] max2_int min2_int max_two min_two max_three min_three max_four min_four   -- for this text's walks alone
set_option linter.unusedVariables false
set_option linter.unusedSimpArgs false

/-! ### impl_ParsePainting: function 6 (proved by hand) -/
/-- What impl.number tells: is the text the numeral of a number up to a bound. -/
def impl_number.v (s : ByteArray) (most : Int) : Int × Bool := if (atoiV s).2 = true ∧ (⟨(Lib.itoa (atoiV s).1).toArray⟩ : ByteArray) = s ∧ (0 ≤ (atoiV s).1 ∧ (atoiV s).1 ≤ most) then ((atoiV s).1, true) else (0, false)
theorem impl_number.itoa (n : Int) (t : ByteArray) (ht : t = ⟨(Lib.itoa n).toArray⟩) (h0 : -9223372036854775808 ≤ n) (h1 : n ≤ 9223372036854775807) (w : World) (hG : Tab w) :
  Calls Tryd.prog 36 #[.int .i64 n] w fun e w' => e = .returned (.string t) ∧ Below w.heap.size w w' := by
 subst ht
 exact parse_Itoa n h0 h1 w hG
theorem impl_number.bounds {s : ByteArray} (h : (atoiV s).2 = true) : -9223372036854775808 ≤ (atoiV s).1 ∧ (atoiV s).1 ≤ 9223372036854775807 := by
 unfold atoiV at h ⊢
 cases e : Lib.atoiAll s.data.toList
 ·exact Lib.atoiAll_bounds e
 ·rw [e] at h; cases h
 ·rw [e] at h; cases h
set_option maxHeartbeats 8000000 in
set_option maxRecDepth 100000 in
theorem impl_number.calls (s : ByteArray) (most : Int) (w : World) (hG : Tab w) (hs : s.size ≤ 281474976710656) :
  Calls Tryd.prog 17 #[.string s, .int .i64 most] w fun e w' => e = .returned (.tuple #[.int .i64 (impl_number.v s most).1, .bool (impl_number.v s most).2]) ∧ Below w.heap.size w w' := by
 have HG := Aside0.mk hG
 have HS := Aside0.mk hs
 have HB := Aside0.mk (Below.refl w.heap.size w)
 clear hG hs
 cases h0 : (atoiV s).2 with
 | false =>
  have NE := Aside0.mk (show impl_number.v s most = (0, false) from if_neg (fun q => by rw [h0] at q; cases q.1))
  have H0 := Aside0.mk h0
  clear h0
  go_enter Tryd.func17, Tryd.ntmps17
  go_wp2_with (first | (go_at_call 35; (with_reducible refine (parse_Atoi s w HG.out HS.out).mono ?_); rintro e_ w2 ⟨mv_, ev, rfl, h1_, h2_, hb⟩; obtain ⟨tt_, N_, rfl⟩ := h2_ H0.out; have HB2 := Aside0.mk hb; clear h1_ h2_ hb))
  go_ret2
  exact ⟨by rw [NE.out]; first | rfl | (simp; done) | (simp [*]; done), by repeat (first | (with_reducible first | exact HB2.out | apply below_alloc | apply pw_below_drewN | apply below_drew1) | exact HB2.out)⟩
 | true =>
  obtain ⟨b0, b1⟩ := impl_number.bounds h0
  have H0 := Aside0.mk h0
  clear h0
  have HN0 := Aside0.mk b0
  have HN1 := Aside0.mk b1
  clear b0 b1
  obtain ⟨n, hn⟩ : ∃ n_ : Int, n_ = (atoiV s).1 := ⟨_, rfl⟩
  have NN := Aside0.mk hn
  rw [← hn] at HN0 HN1
  clear hn
  obtain ⟨t, ht⟩ : ∃ t_ : ByteArray, t_ = ⟨(Lib.itoa n).toArray⟩ := ⟨_, rfl⟩
  have NT := Aside0.mk ht
  clear ht
  by_cases h1 : t = s
  rotate_left
  ·have NE := Aside0.mk (show impl_number.v s most = (0, false) from if_neg (fun q => h1 (NT.out.trans (by rw [NN.out]; exact q.2.1))))
   have e1 : (t.toList == s.toList) = false := beq_eq_false_iff_ne.mpr (fun e_ => h1 (bytes_same e_))
   have e2 : (t.toList != s.toList) = true := bne_iff_ne.mpr (fun e_ => h1 (bytes_same e_))
   clear h1
   go_enter Tryd.func17, Tryd.ntmps17
   go_wp2_with (first | (go_at_call 35; (with_reducible refine (parse_Atoi s w HG.out HS.out).mono ?_); rintro e_ w2 ⟨mv_, ev, rfl, h1_, h2_, hb⟩; obtain ⟨rfl, rfl⟩ := h1_ H0.out; have HB2 := Aside0.mk hb; have HG2 := Aside0.mk (Tab.below HG.out hb); clear h1_ h2_ hb; rw [← NN.out]) | (go_at_call 36; (with_reducible refine (impl_number.itoa n t NT.out HN0.out HN1.out w2 HG2.out).mono ?_); rintro e_ w3 ⟨rfl, hb⟩; have HB3 := Aside0.mk (below_step HB2.out hb : Below w.heap.size w w3); clear hb))
   go_ret2
   exact ⟨by rw [NE.out]; first | rfl | (simp; done) | (simp [*]; done), by repeat (first | (with_reducible first | exact HB3.out | apply below_alloc | apply pw_below_drewN | apply below_drew1) | exact HB3.out)⟩
  ·have e1 : (t.toList == s.toList) = true := beq_iff_eq.mpr (by rw [h1])
   have e2 : (t.toList != s.toList) = false := bne_eq_false_iff_eq.mpr (by rw [h1])
   have E1 := Aside0.mk h1
   clear h1
   by_cases h2 : 0 ≤ n ∧ n ≤ most
   ·have NE := Aside0.mk (show impl_number.v s most = (n, true) from by rw [NN.out]; exact if_pos ⟨H0.out, by rw [← NN.out, ← NT.out]; exact E1.out, by rw [← NN.out]; exact h2⟩)
    have HW := Aside0.mk (show impl_within.f n 0 most = some true from by unfold impl_within.f; rw [if_pos h2.1, decide_eq_true h2.2])
    clear h2
    go_enter Tryd.func17, Tryd.ntmps17
    go_wp2_with (first | (go_at_call 35; (with_reducible refine (parse_Atoi s w HG.out HS.out).mono ?_); rintro e_ w2 ⟨mv_, ev, rfl, h1_, h2_, hb⟩; obtain ⟨rfl, rfl⟩ := h1_ H0.out; have HB2 := Aside0.mk hb; have HG2 := Aside0.mk (Tab.below HG.out hb); clear h1_ h2_ hb; rw [← NN.out]) | (go_at_call 36; (with_reducible refine (impl_number.itoa n t NT.out HN0.out HN1.out w2 HG2.out).mono ?_); rintro e_ w3 ⟨rfl, hb⟩; have HB3 := Aside0.mk (below_step HB2.out hb : Below w.heap.size w w3); clear hb) | (go_at_call 37; (with_reducible refine (impl_within.calls n 0 most true _ HW.out).mono ?_); rintro e_ w' ⟨rfl, ⟨nd, rfl⟩⟩))
    go_ret2
    exact ⟨by rw [NE.out]; first | rfl | (simp; done) | (simp [*]; done), by repeat (first | (with_reducible first | exact HB3.out | apply below_alloc | apply pw_below_drewN | apply below_drew1) | exact HB3.out)⟩
   ·have NE := Aside0.mk (show impl_number.v s most = (0, false) from if_neg (fun q => h2 (by rw [NN.out]; exact q.2.2)))
    have HW := Aside0.mk (show impl_within.f n 0 most = some false from by
     unfold impl_within.f
     by_cases g : 0 ≤ n
     ·rw [if_pos g, decide_eq_false (fun q => h2 ⟨g, q⟩)]
     ·rw [if_neg g])
    clear h2
    go_enter Tryd.func17, Tryd.ntmps17
    go_wp2_with (first | (go_at_call 35; (with_reducible refine (parse_Atoi s w HG.out HS.out).mono ?_); rintro e_ w2 ⟨mv_, ev, rfl, h1_, h2_, hb⟩; obtain ⟨rfl, rfl⟩ := h1_ H0.out; have HB2 := Aside0.mk hb; have HG2 := Aside0.mk (Tab.below HG.out hb); clear h1_ h2_ hb; rw [← NN.out]) | (go_at_call 36; (with_reducible refine (impl_number.itoa n t NT.out HN0.out HN1.out w2 HG2.out).mono ?_); rintro e_ w3 ⟨rfl, hb⟩; have HB3 := Aside0.mk (below_step HB2.out hb : Below w.heap.size w w3); clear hb) | (go_at_call 37; (with_reducible refine (impl_within.calls n 0 most false _ HW.out).mono ?_); rintro e_ w' ⟨rfl, ⟨nd, rfl⟩⟩))
    go_ret2
    exact ⟨by rw [NE.out]; first | rfl | (simp; done) | (simp [*]; done), by repeat (first | (with_reducible first | exact HB3.out | apply below_alloc | apply pw_below_drewN | apply below_drew1) | exact HB3.out)⟩
theorem piece_le {s p : ByteArray} (h : p ∈ piecesOf s) : p.size ≤ s.size := by
 have key : ∀ (k : Nat) (s : ByteArray), ∀ p ∈ Lib.splitB ⟨#[58]⟩ 0 k s, p.size ≤ s.size := by
  intro k
  induction k with
  | zero =>
   intro s p hp
   rw [Lib.splitB_zero] at hp
   rw [List.mem_singleton.1 hp]
   exact Nat.le_refl _
  | succ k ih =>
   intro s p hp
   unfold Lib.splitB at hp
   split at hp
   ·rw [List.mem_singleton.1 hp]
    exact Nat.le_refl _
   ·rcases List.mem_cons.1 hp with rfl | hp
    ·rw [ByteArray.size_extract]; omega
    ·have := ih _ p hp
     rw [ByteArray.size_extract] at this
     omega
 exact key _ s p h
def impl_ParsePainting.col (x : Int) : Int := wrap64 (x - 48)
def impl_ParsePainting.g (k : Nat) : List ByteArray → Option (Int × Int × List Int × Bool)
 | [p0, p1, p2] => if (impl_number.v p0 8).2 = true ∧ (impl_number.v p1 3).2 = true then ((impl_IsPainting.f k (impl_number.v p0 8).1 (impl_number.v p1 3).1 ((numsOf p2).map impl_ParsePainting.col)).bind fun b => if b = true then some ((impl_number.v p0 8).1, (impl_number.v p1 3).1, (numsOf p2).map impl_ParsePainting.col, true) else some (0, 0, [], false)) else some (0, 0, [], false)
 | _ => some (0, 0, [], false)
def impl_ParsePainting.f (k : Nat) (a0 : ByteArray) : Option (Int × Int × List Int × Bool) := if a0.size < 1073741824 then impl_ParsePainting.g k (piecesOf a0) else none
theorem impl_ParsePainting.mono : ∀ a0 k, LeO (impl_ParsePainting.f k a0) (impl_ParsePainting.f (k + 1) a0) := by
 intro a0 k
 unfold impl_ParsePainting.f
 refine LeO.ite ?_ (LeO.refl _)
 unfold impl_ParsePainting.g
 split
 ·exact LeO.ite (LeO.bind (impl_IsPainting.mono _ _ _ _) (fun _ => LeO.refl _)) (LeO.refl _)
 ·exact LeO.refl _
theorem impl_ParsePainting.g_else (k : Nat) {ps : List ByteArray} (h : ps.length ≠ 3) : impl_ParsePainting.g k ps = some (0, 0, [], false) := by
 unfold impl_ParsePainting.g
 split
 ·exact absurd rfl h
 ·rfl
theorem impl_ParsePainting.three {ps : List ByteArray} (h : ps.length = 3) : ∃ p0 p1 p2, ps = [p0, p1, p2] := by
 match ps, h with
 | [p0, p1, p2], _ => exact ⟨p0, p1, p2, rfl⟩
theorem impl_ParsePainting.split (s : ByteArray) (ps : List ByteArray) (hps : ps = piecesOf s) (w : World) (hG : Tab w) (hs : s.size < 1073741824) :
  Calls Tryd.prog 16 #[.string s, .string ⟨#[58]⟩] w fun e w' => ∃ g, e = .returned (.slice (some ⟨g, 0, none⟩) ps.length ps.length) ∧ w.heap.size ≤ g ∧ w'.heap[g]? = some (.cells (ps.map Value.string).toArray 9 (0, 0)) ∧ Below w.heap.size w w' := by
 subst hps
 exact parse_Split s w hG (by omega)
theorem impl_ParsePainting.split3 (s p0 p1 p2 : ByteArray) (hps : [p0, p1, p2] = piecesOf s) (w : World) (hG : Tab w) (hs : s.size < 1073741824) :
  Calls Tryd.prog 16 #[.string s, .string ⟨#[58]⟩] w fun e w' => ∃ g, e = .returned (.slice (some ⟨g, 0, none⟩) 3 3) ∧ w.heap.size ≤ g ∧ w'.heap[g]? = some (.cells #[.string p0, .string p1, .string p2] 9 (0, 0)) ∧ Below w.heap.size w w' :=
 impl_ParsePainting.split s [p0, p1, p2] hps w hG hs
/-- '[]byte(s)' lays a row of the bytes: with its block. -/
theorem conv_event2 {P : Program} {ops : Array Oper} {rest : List Oper} {o : Oper} {a : Act} {Q : Exit → Act → World → Prop} {W : World} (s : ByteArray) (L : List Int) (hL : L = numsOf s) (hgd : o.guard = none) {N : Tmp} (hd : o.dst = some N) {c : Nat} (hs : s.size ≤ 9223372036854775807)
  (hrun : (execOp a.eval o).run P W = .ok (.value (.slice (some ⟨W.heap.size, 0, none⟩) s.size c)) (Lib.bytesWorld W 5 s))
  (h : ∀ gc c_ w1, gc = W.heap.size → (∃ oc, w1.heap[gc]? = some oc ∧ ∀ W_ : World, W_.heap[gc]? = some oc → Kd.C (Kd.int .u8) W_ (some ⟨gc, 0, none⟩) L.length L) → Below W.heap.size W w1 → wpList P ops Q rest (a.put o.dst (.slice (some ⟨gc, 0, none⟩) L.length c_)) w1) : wpList P ops Q (o :: rest) a W := by
 subst hL
 refine Kd.event_run hgd hrun ?_
 have hnew := Lib.bytesWorld_at_new W 5 s
 have := h W.heap.size c (Lib.bytesWorld W 5 s) rfl ⟨_, hnew, fun W_ hW_ => ?_⟩ (Go.Joins.below_bytesWorld _ _ _ _ (Nat.le_refl _))
 ·rw [numsOf_length] at this
  exact this
 ·refine ⟨rfl, by rw [numsOf_length]; exact hs, fun _ => ⟨_, rfl, fun j p hp => ⟨[.int .u8 p], rfl, rfl, fun i u hi => ?_⟩⟩⟩
  have hj : j < s.size := by
   rw [← numsOf_length]
   exact (List.getElem?_eq_some_iff.1 hp).1
  cases i with
  | succ i => simp at hi
  | zero =>
   obtain rfl : Value.int .u8 p = u := by simpa using hi
   have hc := Lib.bytesWorld_cell W 5 s j hj
   have hp2 : p = (s.data.toList.getD j 0).toNat := by
    have := hp
    unfold numsOf at this
    rw [List.getElem?_map] at this
    rw [Lib.size_eq] at hj
    rw [List.getElem?_eq_getElem hj] at this
    simp at this
    rw [← this]
    simp [List.getD, List.getElem?_eq_getElem hj]
   rw [hp2]
   have ea : (⟨W.heap.size, 0, none⟩ : Addr).add (j * (Kd.int .u8).sz + 0) = ⟨W.heap.size, j, none⟩ := by
    show (⟨W.heap.size, 0, none⟩ : Addr).add (j * 1 + 0) = _
    rw [Nat.mul_one, Nat.add_zero]
    unfold Addr.add
    by_cases c0 : j = 0
    ·subst c0; simp
    ·simp [c0]
   rw [ea]
   rw [← hc]
   unfold World.cell?
   simp only [hnew, hW_]
theorem addr_at (g i : Nat) : (⟨g, 0, none⟩ : Addr).add i = ⟨g, i, none⟩ := by
 unfold Addr.add
 by_cases c0 : i = 0
 ·subst c0; simp
 ·simp [c0]
theorem nums_byte {s : ByteArray} {i : Nat} (h : i < (numsOf s).length) : 0 ≤ rd (numsOf s) (i : Int) ∧ rd (numsOf s) (i : Int) ≤ 255 := by
 have : rd (numsOf s) (i : Int) = (numsOf s)[i] := by simp [rd, List.getD, h]
 rw [this]
 have hm : ∀ x ∈ numsOf s, 0 ≤ x ∧ x ≤ 255 := by
  intro x hx
  unfold numsOf at hx
  obtain ⟨b, _, rfl⟩ := List.mem_map.1 hx
  have := b.toNat_lt
  omega
 exact hm _ (List.getElem_mem h)
theorem impl_ParsePainting.step {L : List Int} {i : Nat} (h : i < L.length) : (L.take (i + 1)).map impl_ParsePainting.col = (L.take i).map impl_ParsePainting.col ++ [wrap64 (rd L (i : Int) - 48)] := by
 rw [List.take_succ_eq_append_getElem h, List.map_append, show rd L (i : Int) = L[i] by simp [rd, List.getD, h]]
 rfl
set_option maxHeartbeats 16000000 in
set_option maxRecDepth 100000 in
theorem impl_ParsePainting.calls (k : Nat) (a0 : ByteArray) (r1 : Int) (r2 : Int) (r3 : List Int) (r4 : Bool) (w : World) (hG : Tab w) (h : impl_ParsePainting.f k a0 = some (r1, r2, r3, r4)) :
  Calls Tryd.prog 6 #[.string a0] w fun e w' => ∃ v2_ : Value, e = .returned (.tuple #[.agg #[.int .i64 r1, .int .i64 r2, v2_], .bool r4]) ∧ Kd.R (Kd.int .i64) 3 w' w.heap.size (fun _ => True) v2_ r3 ∧ Below w.heap.size w w' := by
 have huP := Tryd.underlying24
 have huS := Tryd.underlying42
 have HG := Aside0.mk hG
 have HB := Aside0.mk (Below.refl w.heap.size w)
 clear hG
 unfold impl_ParsePainting.f at h
 by_cases hs : a0.size < 1073741824
 rotate_left
 ·rw [if_neg hs] at h; cases h
 rw [if_pos hs] at h
 have HS := Aside0.mk hs
 clear hs
 obtain ⟨ps, hps⟩ : ∃ ps_ : List ByteArray, ps_ = piecesOf a0 := ⟨_, rfl⟩
 rw [← hps] at h
 have NPS := Aside0.mk hps
 clear hps
 by_cases h3 : ps.length = 3
 rotate_left
 ·rw [impl_ParsePainting.g_else k h3] at h
  simp only [Option.some.injEq, Prod.mk.injEq] at h
  obtain ⟨rfl, rfl, rfl, rfl⟩ := h
  have n1 : decide ((ps.length : Int) = 3) = false := decide_eq_false (by omega)
  have n2 : ((ps.length : Int) == 3) = false := beq_eq_false_iff_ne.mpr (by omega)
  have n3 : ((ps.length : Int) != 3) = true := bne_iff_ne.mpr (by omega)
  have n4 : (ps.length == 3) = false := beq_eq_false_iff_ne.mpr h3
  have n5 : (ps.length = 3) = False := eq_false h3
  clear h3
  go_enter Tryd.func6, Tryd.ntmps6
  go_wp2_with (first | ((with_reducible refine gate_dst (N := 2) rfl ?_); refine box_event ?hg (N := 2) ?hd (cs := #[.int .i64 0, .int .i64 0, .slice none 0 0]) (t := 24) ?hr ?_; (case hd => rfl); (case hg => rfl); (case hr => first | (go_simp; done) | (go_simp; rfl)); intro gr hg w1 hbox hb; have GR := Aside0.mk (show w.heap.size ≤ gr from by rw [hg]; exact below_size (by repeat (first | (with_reducible first | exact HB.out | apply below_alloc | apply pw_below_drewN | apply below_drew1) | exact HB.out))); have HB1 := Aside0.mk ((below_step (by repeat (first | (with_reducible first | exact HB.out | apply below_alloc | apply pw_below_drewN | apply below_drew1) | exact HB.out)) hb : Below w.heap.size w w1)); have BR1 := Aside0.mk (hbox); have HG1 := Aside0.mk (Tab.below HG.out HB1.out); clear hb hbox hg) | (go_at_call 16; (with_reducible refine (impl_ParsePainting.split a0 ps NPS.out w1 HG1.out HS.out).mono ?_); rintro e_ w2 ⟨gp, rfl, hgp_, hbp, hb⟩; have BP2 := Aside0.mk (hbp); have HB2 := Aside0.mk ((below_step HB1.out hb : Below w.heap.size w w2)); have BR2 := Aside0.mk (blk_below (g := gr) (o := (.cells #[.int .i64 0, .int .i64 0, .slice none 0 0] 24 (0, 0))) BR1.out hb); have HG2 := Aside0.mk (Tab.below HG.out HB2.out); have hzr0 : w2.cell? ⟨gr, 0, none⟩ = some (.int .i64 0) := (blk_cell BR2.out 0).trans rfl; have hzr1 : w2.cell? ⟨gr, 1, none⟩ = some (.int .i64 0) := (blk_cell BR2.out 1).trans rfl; have hzr2 : w2.cell? ⟨gr, 2, none⟩ = some (.slice none 0 0) := (blk_cell BR2.out 2).trans rfl; clear hgp_ hbp hb) | (refine store_event (t := 24) (p := 2) (v := ?vn0_) (w1 := ?wn0_) ?hg ?ho ?hn ?hr ?_; (case ho => rfl); (case hg => rfl); (case hn => rfl); (case hr => have hf0_ := blk_frozen BR2.out 0; have hf1_ := blk_frozen BR2.out 1; have hf2_ := blk_frozen BR2.out 2; first | (go_simp; done) | (go_simp; rfl)); intro w9 hw; have BR9 := Aside0.mk (show w9.heap[gr]? = some (.cells #[.int .i64 0, .int .i64 0, .slice none 0 0] 24 (0, 0)) from (by rw [hw]; (with_reducible repeat (first | refine blk_drewN ?_ _ | refine blk_drew ?_ | refine blk_alloc ?_ _)); exact blk_put (blk_set (blk_set BR2.out 0 _) 1 _) 2 _ rfl)); have HB9 := Aside0.mk (show Below w.heap.size w w9 from by rw [hw]; (with_reducible repeat (first | apply below_drew1 | apply pw_below_drewN)); exact below_set (below_set (below_set HB2.out GR.out) GR.out) GR.out); clear hw))
  refine bodyPost_ret (results_ct rfl _ _ gr 24 #[.int .i64 0, .int .i64 0, .slice none 0 0] (0, 0) _ rfl (by (with_reducible repeat (first | refine blk_drewN ?_ _ | refine blk_drew ?_ | refine blk_alloc ?_ _)); exact BR9.out) Tryd.underlying24 rfl (by kernel_rfl)) rfl ?_
  exact ⟨_, (by first | rfl | (simp; done) | (simp [*]; done)), Kd.R_nil _ _ _ _ _, by repeat (first | (with_reducible first | exact HB9.out | apply below_alloc | apply pw_below_drewN | apply below_drew1) | exact HB9.out)⟩
 obtain ⟨p0, p1, p2, rfl⟩ := impl_ParsePainting.three h3
 clear h3
 have HS0 := Aside0.mk (show p0.size ≤ 281474976710656 from by have := piece_le (s := a0) (p := p0) (by rw [← NPS.out]; simp); have := HS.out; omega)
 have HS1 := Aside0.mk (show p1.size ≤ 281474976710656 from by have := piece_le (s := a0) (p := p1) (by rw [← NPS.out]; simp); have := HS.out; omega)
 have HS2 := Aside0.mk (show p2.size < 1073741824 from by have := piece_le (s := a0) (p := p2) (by rw [← NPS.out]; simp); have := HS.out; omega)
 simp only [impl_ParsePainting.g] at h
 have H := Aside0.mk h
 clear h
 obtain ⟨L, hL⟩ : ∃ L_ : List Int, L_ = numsOf p2 := ⟨_, rfl⟩
 have NL := Aside0.mk hL
 clear hL
 obtain ⟨n, hn⟩ : ∃ n_ : Int, n_ = (impl_number.v p0 8).1 := ⟨_, rfl⟩
 have NN := Aside0.mk hn
 clear hn
 obtain ⟨o1, ho1⟩ : ∃ n_ : Bool, n_ = (impl_number.v p0 8).2 := ⟨_, rfl⟩
 have NO1 := Aside0.mk ho1
 clear ho1
 obtain ⟨m, hm⟩ : ∃ n_ : Int, n_ = (impl_number.v p1 3).1 := ⟨_, rfl⟩
 have NM := Aside0.mk hm
 clear hm
 obtain ⟨o2, ho2⟩ : ∃ n_ : Bool, n_ = (impl_number.v p1 3).2 := ⟨_, rfl⟩
 have NO2 := Aside0.mk ho2
 clear ho2
 go_enter Tryd.func6, Tryd.ntmps6
 go_wp2_with (first | ((with_reducible refine gate_dst (N := 2) rfl ?_); refine box_event ?hg (N := 2) ?hd (cs := #[.int .i64 0, .int .i64 0, .slice none 0 0]) (t := 24) ?hr ?_; (case hd => rfl); (case hg => rfl); (case hr => first | (go_simp; done) | (go_simp; rfl)); intro gr hg w1 hbox hb; have GR := Aside0.mk (show w.heap.size ≤ gr from by rw [hg]; exact below_size (by repeat (first | (with_reducible first | exact HB.out | apply below_alloc | apply pw_below_drewN | apply below_drew1) | exact HB.out))); have HB1 := Aside0.mk ((below_step (by repeat (first | (with_reducible first | exact HB.out | apply below_alloc | apply pw_below_drewN | apply below_drew1) | exact HB.out)) hb : Below w.heap.size w w1)); have BR1 := Aside0.mk (hbox); have HG1 := Aside0.mk (Tab.below HG.out HB1.out); clear hb hbox hg) | (go_at_call 16; (with_reducible refine (impl_ParsePainting.split3 a0 p0 p1 p2 NPS.out w1 HG1.out HS.out).mono ?_); rintro e_ w2 ⟨gp, rfl, hgp_, hbp, hb⟩; have BP2 := Aside0.mk (hbp); have HB2 := Aside0.mk ((below_step HB1.out hb : Below w.heap.size w w2)); have BR2 := Aside0.mk (blk_below (g := gr) (o := (.cells #[.int .i64 0, .int .i64 0, .slice none 0 0] 24 (0, 0))) BR1.out hb); have HG2 := Aside0.mk (Tab.below HG.out HB2.out); have hp0 : w2.cell? ⟨gp, 0, none⟩ = some (.string p0) := (blk_cell BP2.out 0).trans rfl; clear hgp_ hbp hb) | (go_at_call 17; (with_reducible refine (impl_number.calls p0 8 w2 HG2.out HS0.out).mono ?_); rintro e_ w3 ⟨rfl, hb⟩; rw [← NN.out, ← NO1.out]; clear hp0; have HB3 := Aside0.mk ((below_step HB2.out hb : Below w.heap.size w w3)); have BP3 := Aside0.mk (blk_below (g := gp) (o := (.cells #[.string p0, .string p1, .string p2] 9 (0, 0))) BP2.out hb); have BR3 := Aside0.mk (blk_below (g := gr) (o := (.cells #[.int .i64 0, .int .i64 0, .slice none 0 0] 24 (0, 0))) BR2.out hb); have HG3 := Aside0.mk (Tab.below HG.out HB3.out); have hp1 : w3.cell? ⟨gp, 1, none⟩ = some (.string p1) := (blk_cell BP3.out 1).trans rfl; clear hb) | (go_at_call 17; (with_reducible refine (impl_number.calls p1 3 w3 HG3.out HS1.out).mono ?_); rintro e_ w4 ⟨rfl, hb⟩; rw [← NM.out, ← NO2.out]; clear hp1; have HB4 := Aside0.mk ((below_step HB3.out hb : Below w.heap.size w w4)); have BP4 := Aside0.mk (blk_below (g := gp) (o := (.cells #[.string p0, .string p1, .string p2] 9 (0, 0))) BP3.out hb); have BR4 := Aside0.mk (blk_below (g := gr) (o := (.cells #[.int .i64 0, .int .i64 0, .slice none 0 0] 24 (0, 0))) BR3.out hb); have HG4 := Aside0.mk (Tab.below HG.out HB4.out); have hp2 : w4.cell? ⟨gp, 2, none⟩ = some (.string p2) := (blk_cell BP4.out 2).trans rfl; clear hb) | ((with_reducible refine gate_dst (N := 9) rfl ?_); refine box_event ?hg (N := 9) ?hd (cs := #[.int .i64 0, .int .i64 0, .slice none 0 0]) (t := 24) ?hr ?_; (case hd => rfl); (case hg => rfl); (case hr => first | (go_simp; done) | (go_simp; rfl)); intro gx hg w5 hbox hb; clear hp2; have GX := Aside0.mk (show w.heap.size ≤ gx from by rw [hg]; exact below_size (by repeat (first | (with_reducible first | exact HB4.out | apply below_alloc | apply pw_below_drewN | apply below_drew1) | exact HB4.out))); have NRX := Aside0.mk (show gr ≠ gx from by rw [hg]; exact Nat.ne_of_lt (blk_lt BR4.out)); have NPX := Aside0.mk (show gp ≠ gx from by rw [hg]; exact Nat.ne_of_lt (blk_lt BP4.out)); have HB5 := Aside0.mk ((below_step HB4.out hb : Below w.heap.size w w5)); have BP5 := Aside0.mk (blk_below (g := gp) (o := (.cells #[.string p0, .string p1, .string p2] 9 (0, 0))) BP4.out hb); have BR5 := Aside0.mk (blk_below (g := gr) (o := (.cells #[.int .i64 0, .int .i64 0, .slice none 0 0] 24 (0, 0))) BR4.out hb); have BX5 := Aside0.mk (hbox); have hzx0 : w5.cell? ⟨gx, 0, none⟩ = some (.int .i64 0) := (blk_cell hbox 0).trans rfl; have hzx1 : w5.cell? ⟨gx, 1, none⟩ = some (.int .i64 0) := (blk_cell hbox 1).trans rfl; have hzx2 : w5.cell? ⟨gx, 2, none⟩ = some (.slice none 0 0) := (blk_cell hbox 2).trans rfl; clear hb hbox hg) | (refine store_event (t := 24) (p := 9) (v := ?vn1_) (w1 := ?wn1_) ?hg ?ho ?hn ?hr ?_; (case ho => rfl); (case hg => rfl); (case hn => rfl); (case hr => have hf0_ := blk_frozen BX5.out 0; have hf1_ := blk_frozen BX5.out 1; have hf2_ := blk_frozen BX5.out 2; first | (go_simp; done) | (go_simp; rfl)); intro w6 hw; have KS6 := Aside0.mk (show Kept w5 w6 (fun k_ => k_ = gx) from by rw [hw]; (with_reducible repeat (first | refine Kept.alloc ?_ _ | refine Kept.drewN ?_ _ | refine Kept.drew ?_)); exact Kept.setCell (Kept.setCell (Kept.setCell (Kept.refl _ _) (.inl (by rfl)) _) (.inl (by rfl)) _) (.inl (by rfl)) _); have BX6 := Aside0.mk (show w6.heap[gx]? = some (.cells #[.int .i64 n, .int .i64 m, .slice none 0 0] 24 (0, 0)) from (by rw [hw]; (with_reducible repeat (first | refine blk_drewN ?_ _ | refine blk_drew ?_ | refine blk_alloc ?_ _)); exact blk_put (blk_set (blk_set BX5.out 0 _) 1 _) 2 _ rfl)); have HB6 := Aside0.mk (show Below w.heap.size w w6 from by rw [hw]; (with_reducible repeat (first | apply below_drew1 | apply pw_below_drewN)); exact below_set (below_set (below_set HB5.out GX.out) GX.out) GX.out); have BP6 := Aside0.mk (blk_kept BP5.out KS6.out (fun e_ => NPX.out e_)); have BR6 := Aside0.mk (blk_kept BR5.out KS6.out (fun e_ => NRX.out e_)); have hp2 : w6.cell? ⟨gp, 2, none⟩ = some (.string p2) := (blk_cell BP6.out 2).trans rfl; clear hw hzx0 hzx1 hzx2) | ((with_reducible refine gate_dst (N := 38) rfl ?_); refine conv_event2 (c := ?ccv_) p2 L NL.out ?hg (N := 38) ?hd ?hs ?hr ?_; (case hd => rfl); (case hg => rfl); (case hs => have := HS2.out; omega); (case hr => have hcv := fun w_ : World => Lib.run_convert_string_bytes (P := Tryd.prog) w_ 9 45 5 p2 Tryd.underlying9 Tryd.underlying45 Tryd.underlying5; first | (go_simp; done) | (go_simp; rfl)); intro gc cb w7 hg hoc hb; obtain ⟨oc, hoc1, hoc2⟩ := hoc; clear hp2; have HOC := Aside0.mk (hoc2); have BC7 := Aside0.mk (hoc1); have NXC := Aside0.mk (show gx ≠ gc from by rw [hg]; exact Nat.ne_of_lt (blk_lt BX6.out)); have HB7 := Aside0.mk ((below_step HB6.out hb : Below w.heap.size w w7)); have BX7 := Aside0.mk (blk_below (g := gx) (o := (.cells #[.int .i64 n, .int .i64 m, .slice none 0 0] 24 (0, 0))) BX6.out hb); have BR7 := Aside0.mk (blk_below (g := gr) (o := (.cells #[.int .i64 0, .int .i64 0, .slice none 0 0] 24 (0, 0))) BR6.out hb); clear hoc1 hoc2 hb hg))
 go_loopg [40] (L.length + 1) (fun kq v40 w' => ∃ (i : Nat) (Ax : Option Addr) (cx : Nat) (Y : List Int), v40 = .int .i64 (i : Int) ∧ Aside0 (kq + i = L.length + 1) ∧ Aside0 (i ≤ L.length) ∧ Aside0 (Y = (L.take i).map impl_ParsePainting.col) ∧ Aside0 (w'.heap[gx]? = some (.cells #[.int .i64 n, .int .i64 m, .slice Ax Y.length cx] 24 (0, 0))) ∧ Aside0 (Kd.R (Kd.int .i64) 3 w' w.heap.size (fun k_ => k_ ≠ gr ∧ k_ ≠ gx ∧ k_ ≠ gc) (.slice Ax Y.length cx) Y) ∧ Aside0 (w'.heap[gr]? = some (.cells #[.int .i64 0, .int .i64 0, .slice none 0 0] 24 (0, 0))) ∧ Aside0 (w'.heap[gc]? = some oc) ∧ Aside0 (Below w.heap.size w w'))
 case atStart => exact ⟨0, none, 0, [], by simp, ⟨by omega⟩, ⟨Nat.zero_le _⟩, ⟨by simp⟩, ⟨(by (with_reducible repeat (first | refine blk_drewN ?_ _ | refine blk_drew ?_ | refine blk_alloc ?_ _)); exact BX7.out)⟩, ⟨Kd.R_nil _ _ _ _ _⟩, ⟨(by (with_reducible repeat (first | refine blk_drewN ?_ _ | refine blk_drew ?_ | refine blk_alloc ?_ _)); exact BR7.out)⟩, ⟨(by (with_reducible repeat (first | refine blk_drewN ?_ _ | refine blk_drew ?_ | refine blk_alloc ?_ _)); exact BC7.out)⟩, ⟨by repeat (first | (with_reducible first | exact HB7.out | apply below_alloc | apply pw_below_drewN | apply below_drew1) | exact HB7.out)⟩⟩
 case round =>
  clear BX7 BR7 HB7 BC7
  obtain ⟨i, Ax, cx, Y, rfl, HK, HI, NY, BX, HR, BR, BC, HBr⟩ := hrel
  have hzx2 : wr.cell? ⟨gx, 2, none⟩ = some (.slice Ax Y.length cx) := (blk_cell BX.out 2).trans rfl
  by_cases q0 : i < L.length
  rotate_left
  ·have q01 : decide ((i : Int) < (L.length : Int)) = false := decide_eq_false (by omega)
   have q02 : decide (i < L.length) = false := decide_eq_false q0
   have NY2 := Aside0.mk (show Y = L.map impl_ParsePainting.col from by rw [NY.out, List.take_of_length_le (by omega)])
   clear q0
   have hzx0 : wr.cell? ⟨gx, 0, none⟩ = some (.int .i64 n) := (blk_cell BX.out 0).trans rfl
   have hzx1 : wr.cell? ⟨gx, 1, none⟩ = some (.int .i64 m) := (blk_cell BX.out 1).trans rfl
   have hzr0 : wr.cell? ⟨gr, 0, none⟩ = some (.int .i64 0) := (blk_cell BR.out 0).trans rfl
   have hzr1 : wr.cell? ⟨gr, 1, none⟩ = some (.int .i64 0) := (blk_cell BR.out 1).trans rfl
   have hzr2 : wr.cell? ⟨gr, 2, none⟩ = some (.slice none 0 0) := (blk_cell BR.out 2).trans rfl
   have h := H.out
   rw [← NL.out, ← NN.out, ← NM.out, ← NO1.out, ← NO2.out, ← NY2.out] at h
   clear H
   cases o1 with
   | false =>
    rw [if_neg (by simp)] at h
    simp only [Option.some.injEq, Prod.mk.injEq] at h
    obtain ⟨rfl, rfl, rfl, rfl⟩ := h
    go_wp2_with (first | (refine store_event (t := 24) (p := 2) (v := ?vn2_) (w1 := ?wn2_) ?hg ?ho ?hn ?hr ?_; (case ho => rfl); (case hg => rfl); (case hn => rfl); (case hr => have hf0_ := blk_frozen BR.out 0; have hf1_ := blk_frozen BR.out 1; have hf2_ := blk_frozen BR.out 2; first | (go_simp; done) | (go_simp; rfl)); intro w9 hw; have BR9 := Aside0.mk (show w9.heap[gr]? = some (.cells #[.int .i64 0, .int .i64 0, .slice none 0 0] 24 (0, 0)) from (by rw [hw]; (with_reducible repeat (first | refine blk_drewN ?_ _ | refine blk_drew ?_ | refine blk_alloc ?_ _)); exact blk_put (blk_set (blk_set BR.out 0 _) 1 _) 2 _ rfl)); have HB9 := Aside0.mk (show Below w.heap.size w w9 from by rw [hw]; (with_reducible repeat (first | apply below_drew1 | apply pw_below_drewN)); exact below_set (below_set (below_set HBr.out GR.out) GR.out) GR.out); clear hw))
    refine bodyPost_ret (results_ct rfl _ _ gr 24 #[.int .i64 0, .int .i64 0, .slice none 0 0] (0, 0) _ rfl (by (with_reducible repeat (first | refine blk_drewN ?_ _ | refine blk_drew ?_ | refine blk_alloc ?_ _)); exact BR9.out) Tryd.underlying24 rfl (by kernel_rfl)) rfl ?_
    exact ⟨_, (by first | rfl | (simp; done) | (simp [*]; done)), Kd.R_nil _ _ _ _ _, by repeat (first | (with_reducible first | exact HB9.out | apply below_alloc | apply pw_below_drewN | apply below_drew1) | exact HB9.out)⟩
   | true =>
    cases o2 with
    | false =>
     rw [if_neg (by simp)] at h
     simp only [Option.some.injEq, Prod.mk.injEq] at h
     obtain ⟨rfl, rfl, rfl, rfl⟩ := h
     go_wp2_with (first | (refine store_event (t := 24) (p := 2) (v := ?vn3_) (w1 := ?wn3_) ?hg ?ho ?hn ?hr ?_; (case ho => rfl); (case hg => rfl); (case hn => rfl); (case hr => have hf0_ := blk_frozen BR.out 0; have hf1_ := blk_frozen BR.out 1; have hf2_ := blk_frozen BR.out 2; first | (go_simp; done) | (go_simp; rfl)); intro w9 hw; have BR9 := Aside0.mk (show w9.heap[gr]? = some (.cells #[.int .i64 0, .int .i64 0, .slice none 0 0] 24 (0, 0)) from (by rw [hw]; (with_reducible repeat (first | refine blk_drewN ?_ _ | refine blk_drew ?_ | refine blk_alloc ?_ _)); exact blk_put (blk_set (blk_set BR.out 0 _) 1 _) 2 _ rfl)); have HB9 := Aside0.mk (show Below w.heap.size w w9 from by rw [hw]; (with_reducible repeat (first | apply below_drew1 | apply pw_below_drewN)); exact below_set (below_set (below_set HBr.out GR.out) GR.out) GR.out); clear hw))
     refine bodyPost_ret (results_ct rfl _ _ gr 24 #[.int .i64 0, .int .i64 0, .slice none 0 0] (0, 0) _ rfl (by (with_reducible repeat (first | refine blk_drewN ?_ _ | refine blk_drew ?_ | refine blk_alloc ?_ _)); exact BR9.out) Tryd.underlying24 rfl (by kernel_rfl)) rfl ?_
     exact ⟨_, (by first | rfl | (simp; done) | (simp [*]; done)), Kd.R_nil _ _ _ _ _, by repeat (first | (with_reducible first | exact HB9.out | apply below_alloc | apply pw_below_drewN | apply below_drew1) | exact HB9.out)⟩
    | true =>
     rw [if_pos ⟨rfl, rfl⟩] at h
     replace h := Option.bind_eq_some_iff.1 h
     obtain ⟨b, hb, h⟩ := h
     have A1 := Aside0.mk hb
     clear hb
     have HCY := Aside0.mk (Kd.R_reads' HR.out).2.1
     cases b with
     | false =>
      rw [if_neg (by simp)] at h
      simp only [Option.some.injEq, Prod.mk.injEq] at h
      obtain ⟨rfl, rfl, rfl, rfl⟩ := h
      go_wp2_with (first | (go_at_call 18; (with_reducible refine (impl_IsPainting.calls k n m Ax cx Y false _ ?k1 HCY.out A1.out).mono ?_); (case k1 => repeat (first | exact (Kd.R_reads' HR.out).2.2 | (with_reducible refine Kd.C_alloc ?_ _) | (with_reducible refine Kd.C_drewN ?_ _) | (with_reducible refine Kd.C_drew ?_))); rintro e_ w8 ⟨rfl, hb⟩; clear hzx0 hzx1 hzx2 hzr0 hzr1 hzr2; have HB8 := Aside0.mk ((below_step HBr.out hb : Below w.heap.size w w8)); have BX8 := Aside0.mk (blk_below (g := gx) (o := (.cells #[.int .i64 n, .int .i64 m, .slice Ax Y.length cx] 24 (0, 0))) BX.out hb); have BR8 := Aside0.mk (blk_below (g := gr) (o := (.cells #[.int .i64 0, .int .i64 0, .slice none 0 0] 24 (0, 0))) BR.out hb); have HR8 := Aside0.mk (Kd.R_below HR.out hb); have hzx0 : w8.cell? ⟨gx, 0, none⟩ = some (.int .i64 n) := (blk_cell BX8.out 0).trans rfl; have hzx1 : w8.cell? ⟨gx, 1, none⟩ = some (.int .i64 m) := (blk_cell BX8.out 1).trans rfl; have hzx2 : w8.cell? ⟨gx, 2, none⟩ = some (.slice Ax Y.length cx) := (blk_cell BX8.out 2).trans rfl; have hzr0 : w8.cell? ⟨gr, 0, none⟩ = some (.int .i64 0) := (blk_cell BR8.out 0).trans rfl; have hzr1 : w8.cell? ⟨gr, 1, none⟩ = some (.int .i64 0) := (blk_cell BR8.out 1).trans rfl; have hzr2 : w8.cell? ⟨gr, 2, none⟩ = some (.slice none 0 0) := (blk_cell BR8.out 2).trans rfl; clear hb) | (refine store_event (t := 24) (p := 2) (v := ?vn4_) (w1 := ?wn4_) ?hg ?ho ?hn ?hr ?_; (case ho => rfl); (case hg => rfl); (case hn => rfl); (case hr => have hf0_ := blk_frozen BR8.out 0; have hf1_ := blk_frozen BR8.out 1; have hf2_ := blk_frozen BR8.out 2; first | (go_simp; done) | (go_simp; rfl)); intro w9 hw; have BR9 := Aside0.mk (show w9.heap[gr]? = some (.cells #[.int .i64 0, .int .i64 0, .slice none 0 0] 24 (0, 0)) from (by rw [hw]; (with_reducible repeat (first | refine blk_drewN ?_ _ | refine blk_drew ?_ | refine blk_alloc ?_ _)); exact blk_put (blk_set (blk_set BR8.out 0 _) 1 _) 2 _ rfl)); have HB9 := Aside0.mk (show Below w.heap.size w w9 from by rw [hw]; (with_reducible repeat (first | apply below_drew1 | apply pw_below_drewN)); exact below_set (below_set (below_set HB8.out GR.out) GR.out) GR.out); clear hw))
      refine bodyPost_ret (results_ct rfl _ _ gr 24 #[.int .i64 0, .int .i64 0, .slice none 0 0] (0, 0) _ rfl (by (with_reducible repeat (first | refine blk_drewN ?_ _ | refine blk_drew ?_ | refine blk_alloc ?_ _)); exact BR9.out) Tryd.underlying24 rfl (by kernel_rfl)) rfl ?_
      exact ⟨_, (by first | rfl | (simp; done) | (simp [*]; done)), Kd.R_nil _ _ _ _ _, by repeat (first | (with_reducible first | exact HB9.out | apply below_alloc | apply pw_below_drewN | apply below_drew1) | exact HB9.out)⟩
     | true =>
      rw [if_pos rfl] at h
      simp only [Option.some.injEq, Prod.mk.injEq] at h
      obtain ⟨rfl, rfl, rfl, rfl⟩ := h
      go_wp2_with (first | (go_at_call 18; (with_reducible refine (impl_IsPainting.calls k n m Ax cx Y true _ ?k1 HCY.out A1.out).mono ?_); (case k1 => repeat (first | exact (Kd.R_reads' HR.out).2.2 | (with_reducible refine Kd.C_alloc ?_ _) | (with_reducible refine Kd.C_drewN ?_ _) | (with_reducible refine Kd.C_drew ?_))); rintro e_ w8 ⟨rfl, hb⟩; clear hzx0 hzx1 hzx2 hzr0 hzr1 hzr2; have HB8 := Aside0.mk ((below_step HBr.out hb : Below w.heap.size w w8)); have BX8 := Aside0.mk (blk_below (g := gx) (o := (.cells #[.int .i64 n, .int .i64 m, .slice Ax Y.length cx] 24 (0, 0))) BX.out hb); have BR8 := Aside0.mk (blk_below (g := gr) (o := (.cells #[.int .i64 0, .int .i64 0, .slice none 0 0] 24 (0, 0))) BR.out hb); have HR8 := Aside0.mk (Kd.R_below HR.out hb); have hzx0 : w8.cell? ⟨gx, 0, none⟩ = some (.int .i64 n) := (blk_cell BX8.out 0).trans rfl; have hzx1 : w8.cell? ⟨gx, 1, none⟩ = some (.int .i64 m) := (blk_cell BX8.out 1).trans rfl; have hzx2 : w8.cell? ⟨gx, 2, none⟩ = some (.slice Ax Y.length cx) := (blk_cell BX8.out 2).trans rfl; have hzr0 : w8.cell? ⟨gr, 0, none⟩ = some (.int .i64 0) := (blk_cell BR8.out 0).trans rfl; have hzr1 : w8.cell? ⟨gr, 1, none⟩ = some (.int .i64 0) := (blk_cell BR8.out 1).trans rfl; have hzr2 : w8.cell? ⟨gr, 2, none⟩ = some (.slice none 0 0) := (blk_cell BR8.out 2).trans rfl; clear hb) | (refine store_event (t := 24) (p := 2) (v := ?vn5_) (w1 := ?wn5_) ?hg ?ho ?hn ?hr ?_; (case ho => rfl); (case hg => rfl); (case hn => rfl); (case hr => have hf0_ := blk_frozen BR8.out 0; have hf1_ := blk_frozen BR8.out 1; have hf2_ := blk_frozen BR8.out 2; first | (go_simp; done) | (go_simp; rfl)); intro w9 hw; have KS9 := Aside0.mk (show Kept w8 w9 (fun k_ => k_ = gr) from by rw [hw]; (with_reducible repeat (first | refine Kept.alloc ?_ _ | refine Kept.drewN ?_ _ | refine Kept.drew ?_)); exact Kept.setCell (Kept.setCell (Kept.setCell (Kept.refl _ _) (.inl (by rfl)) _) (.inl (by rfl)) _) (.inl (by rfl)) _); have BR9 := Aside0.mk (show w9.heap[gr]? = some (.cells #[.int .i64 n, .int .i64 m, .slice Ax Y.length cx] 24 (0, 0)) from (by rw [hw]; (with_reducible repeat (first | refine blk_drewN ?_ _ | refine blk_drew ?_ | refine blk_alloc ?_ _)); exact blk_put (blk_set (blk_set BR8.out 0 _) 1 _) 2 _ rfl)); have HB9 := Aside0.mk (show Below w.heap.size w w9 from by rw [hw]; (with_reducible repeat (first | apply below_drew1 | apply pw_below_drewN)); exact below_set (below_set (below_set HB8.out GR.out) GR.out) GR.out); have HR9 := Aside0.mk ((show Kd.R (Kd.int .i64) 3 w9 w.heap.size (fun _ => True) (.slice Ax Y.length cx) Y from Kd.R_mono (Kd.R_kept HR8.out KS9.out (fun k_ h_ e_ => h_.1 e_)) (fun _ _ => trivial))); clear hw))
      refine bodyPost_ret (results_ct rfl _ _ gr 24 #[.int .i64 n, .int .i64 m, .slice Ax Y.length cx] (0, 0) _ rfl (by (with_reducible repeat (first | refine blk_drewN ?_ _ | refine blk_drew ?_ | refine blk_alloc ?_ _)); exact BR9.out) Tryd.underlying24 rfl (by kernel_rfl)) rfl ?_
      exact ⟨_, (by first | rfl | (simp; done) | (simp [*]; done)), (by (with_reducible repeat (first | apply Kd.R_alloc | apply Kd.R_drewN | apply Kd.R_drew)); exact HR9.out), by repeat (first | (with_reducible first | exact HB9.out | apply below_alloc | apply pw_below_drewN | apply below_drew1) | exact HB9.out)⟩
  ·have q01 : decide ((i : Int) < (L.length : Int)) = true := decide_eq_true (by omega)
   have q02 : decide (i < L.length) = true := decide_eq_true q0
   rcases gk with _ | k2
   ·have := HK.out; omega
   obtain ⟨x, hx⟩ : ∃ x_ : Int, x_ = rd L (i : Int) := ⟨_, rfl⟩
   obtain ⟨adc, ec_, hbc⟩ := Kd.at_int (HOC.out wr BC.out) (i : Int) (Int.natCast_nonneg _) (by omega)
   cases ec_
   rw [← hx, Int.toNat_natCast, addr_at] at hbc
   have hxb := nums_byte (s := p2) (i := i) (by rw [← NL.out]; exact q0)
   rw [← NL.out, ← hx] at hxb
   have NX := Aside0.mk hx
   have hw1 : IntKind.i64.wrap x = x := by rw [i64_w]; unfold wrap64; omega
   have hw2 : wrap64 x = x := by unfold wrap64; omega
   have HYL := Aside0.mk (show Y.length = i from by rw [NY.out, List.length_map, List.length_take]; omega)
   have QI := Aside0.mk q0
   have SU := Aside0.mk (show wrap64 ((i : Int) + 1) = ((i + 1 : Nat) : Int) from by have h3_ := HS2.out; have h4_ := numsOf_length p2; rw [← NL.out] at h4_; unfold wrap64; omega)
   have p1_ : (0 ≤ (i : Int)) = True := eq_true (Int.natCast_nonneg _)
   have p2_ : ((i : Int) < (L.length : Int)) = True := eq_true (by omega)
   clear hx hxb q0
   obtain ⟨y, hy⟩ : ∃ y_ : Int, y_ = wrap64 (x - 48) := ⟨_, rfl⟩
   have hy2 : wrap64 (x - 48) = y := hy.symm
   have NYY := Aside0.mk hy
   clear hy
   obtain ⟨Y2, hY2⟩ : ∃ Y_ : List Int, Y_ = Y ++ [y] := ⟨_, rfl⟩
   have NY2 := Aside0.mk hY2
   clear hY2
   go_wp2_with (first | ((with_reducible refine gate_builtin (b := .append) (xs := #[.tmp 45, .tmp 49]) rfl ?_); at_builtin; refine Kd.R_append (Kd.int .i64) (w0 := w) w.heap.size rfl (.tmp 45) (.tmp 49) 22 3 (.int .i64 0) 8 rfl Tryd.underlying22 info3 rfl (by decide) (by omega) (.slice Ax Y.length cx) Y y [.int .i64 y] (fun k_ => k_ ≠ gr ∧ k_ ≠ gx ∧ k_ ≠ gc) (fun _ => False) rfl rfl ?aP (fun _ hk => hk.elim) ?aF ?aO ?aB ?aS ?aL ?_; (case aP => exact rfl); (case aB => exact HBr.out); (case aF => exact (fun k_ hk_ => ⟨Nat.ne_of_gt (Nat.lt_of_lt_of_le (blk_lt BR.out) hk_), Nat.ne_of_gt (Nat.lt_of_lt_of_le (blk_lt BX.out) hk_), Nat.ne_of_gt (Nat.lt_of_lt_of_le (blk_lt BC.out) hk_)⟩)); (case aO => exact HR.out); (case aS => exact HBr.out.size); (case aL => have h1_ := HYL.out; have h2_ := QI.out; have h3_ := HS2.out; have h4_ := numsOf_length p2; rw [← NL.out] at h4_; omega); intro v3 w3 ho hb hg hat; rw [← NY2.out] at ho; clear hzx2; have HB8 := Aside0.mk (hb); have HR8 := Aside0.mk (ho); have BX8 := Aside0.mk (blk_grown BX.out hg (fun e_ => (HR.out.1 gx e_.symm).2.1 rfl)); have BR8 := Aside0.mk (blk_grown BR.out hg (fun e_ => (HR.out.1 gr e_.symm).1 rfl)); have BC8 := Aside0.mk (blk_grown BC.out hg (fun e_ => (HR.out.1 gc e_.symm).2.2 rfl)); obtain ⟨A3_, c3_, e3_⟩ := Kd.R_slice HR8.out; subst e3_; have hzy2 : w3.cell? ⟨gx, 2, none⟩ = some (.slice Ax Y.length cx) := (blk_cell BX8.out 2).trans rfl; clear ho hb hg hat) | (refine store_event (t := 22) (p := 51) (v := ?vn6_) (w1 := ?wn6_) ?hg ?ho ?hn ?hr ?_; (case ho => rfl); (case hg => rfl); (case hn => rfl); (case hr => have hf2_ := blk_frozen BX8.out 2; first | (go_simp; done) | (go_simp; rfl)); intro w9 hw; have KS9 := Aside0.mk (show Kept w3 w9 (fun k_ => k_ = gx) from by rw [hw]; (with_reducible repeat (first | refine Kept.alloc ?_ _ | refine Kept.drewN ?_ _ | refine Kept.drew ?_)); exact Kept.setCell (Kept.refl _ _) (.inl (by rfl)) _); have BX9 := Aside0.mk (show w9.heap[gx]? = some (.cells #[.int .i64 n, .int .i64 m, .slice A3_ Y2.length c3_] 24 (0, 0)) from by rw [hw]; (with_reducible repeat (first | refine blk_drewN ?_ _ | refine blk_drew ?_ | refine blk_alloc ?_ _)); exact blk_put BX8.out 2 _ rfl); have HB9 := Aside0.mk (show Below w.heap.size w w9 from by rw [hw]; (with_reducible repeat (first | apply below_drew1 | apply pw_below_drewN)); exact below_set HB8.out GX.out); have HR9 := Aside0.mk (Kd.R_kept HR8.out KS9.out (fun k_ h_ e_ => h_.2.1 e_)); have BR9 := Aside0.mk (blk_kept BR8.out KS9.out (fun e_ => NRX.out e_)); have BC9 := Aside0.mk (blk_kept BC8.out KS9.out (fun e_ => NXC.out e_.symm)); clear hw hzy2))
   go_roundg k2
   case measure => omega
   case rel => exact ⟨i + 1, A3_, c3_, Y2, (by rw [SU.out]), ⟨by have := HK.out; omega⟩, ⟨QI.out⟩, ⟨by rw [NY2.out, NY.out, NYY.out, NX.out]; exact (impl_ParsePainting.step QI.out).symm⟩, ⟨(by (with_reducible repeat (first | refine blk_drewN ?_ _ | refine blk_drew ?_ | refine blk_alloc ?_ _)); exact BX9.out)⟩, ⟨(by (with_reducible repeat (first | apply Kd.R_alloc | apply Kd.R_drewN | apply Kd.R_drew)); exact HR9.out)⟩, ⟨(by (with_reducible repeat (first | refine blk_drewN ?_ _ | refine blk_drew ?_ | refine blk_alloc ?_ _)); exact BR9.out)⟩, ⟨(by (with_reducible repeat (first | refine blk_drewN ?_ _ | refine blk_drew ?_ | refine blk_alloc ?_ _)); exact BC9.out)⟩, ⟨by repeat (first | (with_reducible first | exact HB9.out | apply below_alloc | apply pw_below_drewN | apply below_drew1) | exact HB9.out)⟩⟩

end Go.Proofs.YtnmhhhpllffpeaaDoor.Q
namespace Go.Proofs.YtnmhhhpllffpeaaDoor.Q
open Go.RowKit Go.Proofs.YtnmhhhpllffpeaaDoorW.PrintWords Go.Proofs.YtnmhhhpllffpeaaDoorW.PrintLast Go.Proofs.YtnmhhhpllffpeaaDoorW.PrintMore
attribute [local go_sem] max2_int min2_int max_two min_two max_three min_three max_four min_four   -- for this text's walks alone
set_option linter.unusedVariables false
set_option linter.unusedSimpArgs false

/-! ### laws_FnExactParsePainting: function 3 -/
mutual
def laws_FnExactParsePainting.j0 : Nat → ByteArray → Bool → Bool → Int → Int → List Int → Int → Int → List Int → Option (Bool)
 | 0, _, _, _, _, _, _, _, _, _ => none
 | k + 1, x0, x4, x32, x148000, x148001, x148002, x155000, x155001, x155002 => if x32 = true then (some false) else ((laws_markPainting.f k x155000 x155001 x155002 1).bind fun bt156 => ((laws_heldPainting.f k x155000 x155001 bt156.2 1).bind fun t158 => (if t158 < 0 then (some false) else (if t158 = bt156.1 then ((impl_ParsePainting.f k x0).bind fun bt159 => ((laws_eqPainting.f k bt159.1 bt159.2.1 bt159.2.2.1 x148000 x148001 x148002).bind fun t166 => (if t166 = true then (laws_FnExactParsePainting.j1 k bt156.1 (bt159.2.2.2 != x4) x155000 x155001 bt156.2) else (laws_FnExactParsePainting.j1 k bt156.1 true x155000 x155001 bt156.2)))) else (some false)))))
def laws_FnExactParsePainting.j1 : Nat → Int → Bool → Int → Int → List Int → Option (Bool)
 | 0, _, _, _, _, _ => none
 | k + 1, x7, x57, x155000, x155001, x155002 => if x57 = true then (some false) else ((laws_heldPainting.f k x155000 x155001 x155002 1).bind fun t167 => (if t167 < 0 then (some false) else (if t167 = x7 then (some true) else (some false))))
end
def laws_FnExactParsePainting.f (k : Nat) (a0 : ByteArray) : Option (Bool) := if (a0.size : Int) > 1048576 then (some true) else ((spec_ParsePainting.f k a0).bind fun bt141 => ((impl_ParsePainting.f k a0).bind fun bt148 => ((laws_eqPainting.f k bt148.1 bt148.2.1 bt148.2.2.1 bt141.1 bt141.2.1 bt141.2.2.1).bind fun t155 => (if t155 = true then (laws_FnExactParsePainting.j0 k a0 bt141.2.2.2 (bt148.2.2.2 != bt141.2.2.2) bt141.1 bt141.2.1 bt141.2.2.1 bt148.1 bt148.2.1 bt148.2.2.1) else (laws_FnExactParsePainting.j0 k a0 bt141.2.2.2 true bt141.1 bt141.2.1 bt141.2.2.1 bt148.1 bt148.2.1 bt148.2.2.1)))))
theorem laws_FnExactParsePainting.mono_l : ∀ k, (∀ y0 y1 y2 y3 y4 y5 y6 y7 y8, LeO (laws_FnExactParsePainting.j0 k y0 y1 y2 y3 y4 y5 y6 y7 y8) (laws_FnExactParsePainting.j0 (k + 1) y0 y1 y2 y3 y4 y5 y6 y7 y8)) ∧ (∀ y0 y1 y2 y3 y4, LeO (laws_FnExactParsePainting.j1 k y0 y1 y2 y3 y4) (laws_FnExactParsePainting.j1 (k + 1) y0 y1 y2 y3 y4))
 | 0 => ⟨fun _ _ _ _ _ _ _ _ _ r h => by simp [laws_FnExactParsePainting.j0] at h, fun _ _ _ _ _ r h => by simp [laws_FnExactParsePainting.j1] at h⟩
 | k + 1 => by
  obtain ⟨ih0, ih1⟩ := laws_FnExactParsePainting.mono_l k
  refine ⟨?_, ?_⟩
  ·intro y0 y1 y2 y3 y4 y5 y6 y7 y8
   unfold laws_FnExactParsePainting.j0
   repeat' first
   | (with_reducible exact ih0 _ _ _ _ _ _ _ _ _)
   | (with_reducible exact ih1 _ _ _ _ _)
   | (with_reducible exact impl_ParsePainting.mono _ _)
   | (with_reducible exact laws_eqPainting.mono _ _ _ _ _ _ _)
   | (with_reducible exact laws_heldPainting.mono _ _ _ _ _)
   | (with_reducible exact laws_markPainting.mono _ _ _ _ _)
   | (with_reducible exact spec_ParsePainting.mono _ _)
   | (with_reducible exact LeO.refl _)
   | (with_reducible exact LeO.none _)
   | (with_reducible refine LeO.ite ?_ ?_)
   | (with_reducible refine LeO.bind ?_ (fun _ => ?_))
   | exact ih0 _ _ _ _ _ _ _ _ _
   | exact ih1 _ _ _ _ _
   | exact impl_ParsePainting.mono _ _
   | exact laws_eqPainting.mono _ _ _ _ _ _ _
   | exact laws_heldPainting.mono _ _ _ _ _
   | exact laws_markPainting.mono _ _ _ _ _
   | exact spec_ParsePainting.mono _ _
   | exact LeO.none _
   | refine LeO.ite ?_ ?_
   | refine LeO.bind ?_ (fun _ => ?_)
  ·intro y0 y1 y2 y3 y4
   unfold laws_FnExactParsePainting.j1
   repeat' first
   | (with_reducible exact ih0 _ _ _ _ _ _ _ _ _)
   | (with_reducible exact ih1 _ _ _ _ _)
   | (with_reducible exact impl_ParsePainting.mono _ _)
   | (with_reducible exact laws_eqPainting.mono _ _ _ _ _ _ _)
   | (with_reducible exact laws_heldPainting.mono _ _ _ _ _)
   | (with_reducible exact laws_markPainting.mono _ _ _ _ _)
   | (with_reducible exact spec_ParsePainting.mono _ _)
   | (with_reducible exact LeO.refl _)
   | (with_reducible exact LeO.none _)
   | (with_reducible refine LeO.ite ?_ ?_)
   | (with_reducible refine LeO.bind ?_ (fun _ => ?_))
   | exact ih0 _ _ _ _ _ _ _ _ _
   | exact ih1 _ _ _ _ _
   | exact impl_ParsePainting.mono _ _
   | exact laws_eqPainting.mono _ _ _ _ _ _ _
   | exact laws_heldPainting.mono _ _ _ _ _
   | exact laws_markPainting.mono _ _ _ _ _
   | exact spec_ParsePainting.mono _ _
   | exact LeO.none _
   | refine LeO.ite ?_ ?_
   | refine LeO.bind ?_ (fun _ => ?_)
theorem laws_FnExactParsePainting.mono : ∀ a0 k, LeO (laws_FnExactParsePainting.f k a0) (laws_FnExactParsePainting.f (k + 1) a0) := by
 intro a0 k
 obtain ⟨ih0, ih1⟩ := laws_FnExactParsePainting.mono_l k
 unfold laws_FnExactParsePainting.f
 repeat' first
   | (with_reducible exact ih0 _ _ _ _ _ _ _ _ _)
   | (with_reducible exact ih1 _ _ _ _ _)
   | (with_reducible exact impl_ParsePainting.mono _ _)
   | (with_reducible exact laws_eqPainting.mono _ _ _ _ _ _ _)
   | (with_reducible exact laws_heldPainting.mono _ _ _ _ _)
   | (with_reducible exact laws_markPainting.mono _ _ _ _ _)
   | (with_reducible exact spec_ParsePainting.mono _ _)
   | (with_reducible exact LeO.refl _)
   | (with_reducible exact LeO.none _)
   | (with_reducible refine LeO.ite ?_ ?_)
   | (with_reducible refine LeO.bind ?_ (fun _ => ?_))
   | exact ih0 _ _ _ _ _ _ _ _ _
   | exact ih1 _ _ _ _ _
   | exact impl_ParsePainting.mono _ _
   | exact laws_eqPainting.mono _ _ _ _ _ _ _
   | exact laws_heldPainting.mono _ _ _ _ _
   | exact laws_markPainting.mono _ _ _ _ _
   | exact spec_ParsePainting.mono _ _
   | exact LeO.none _
   | refine LeO.ite ?_ ?_
   | refine LeO.bind ?_ (fun _ => ?_)
set_option maxHeartbeats 8000000 in
set_option maxRecDepth 100000 in
theorem laws_FnExactParsePainting.calls (k : Nat) (a0 : ByteArray) (r : Bool) (w : World) (hG : Tab w) (h : laws_FnExactParsePainting.f k a0 = some r) :
  Calls Tryd.prog 3 #[.string a0] w fun e w' => e = .returned (.bool r) ∧ Below w.heap.size w w' := by
 have HG := Aside0.mk hG
 clear hG
 have hu24 := Tryd.underlying24
 have HB := Aside0.mk (Below.refl w.heap.size w)
 have H : (if (a0.size : Int) > 1048576 then (some true) else ((spec_ParsePainting.f k a0).bind fun bt141 => ((impl_ParsePainting.f k a0).bind fun bt148 => ((laws_eqPainting.f k bt148.1 bt148.2.1 bt148.2.2.1 bt141.1 bt141.2.1 bt141.2.2.1).bind fun t155 => (if t155 = true then (laws_FnExactParsePainting.j0 k a0 bt141.2.2.2 (bt148.2.2.2 != bt141.2.2.2) bt141.1 bt141.2.1 bt141.2.2.1 bt148.1 bt148.2.1 bt148.2.2.1) else (laws_FnExactParsePainting.j0 k a0 bt141.2.2.2 true bt141.1 bt141.2.1 bt141.2.2.1 bt148.1 bt148.2.1 bt148.2.2.1)))))) = some r := h
 clear h
 by_cases c2 : (a0.size : Int) > 1048576
 ·rw [if_pos c2] at H
  have c2b0 : decide (1048576 < (a0.size : Int)) = true := decide_eq_true c2
  have c2b1 : decide (1048576 < a0.size) = true := decide_eq_true (by omega)
  clear c2
  obtain rfl := Option.some.inj H
  go_enter Tryd.func3, Tryd.ntmps3
  go_wp2
  go_ret
  exact ⟨by first | rfl | (simp [errW_none, errW_some] <;> rfl) | (simp [*, errW_none, errW_some] <;> rfl), by repeat (first | (with_reducible first | exact HB.out | apply below_alloc | apply pw_below_drewN | apply below_drew1) | exact HB.out)⟩
 ·rw [if_neg c2] at H
  have c2b0 : decide (1048576 < (a0.size : Int)) = false := decide_eq_false c2
  have c2b1 : decide (1048576 < a0.size) = false := decide_eq_false (by omega)
  clear c2
  replace H := Option.bind_eq_some_iff.mp H
  obtain ⟨⟨t141, t142, t143, t146⟩, A30, H⟩ := H
  replace H : ((impl_ParsePainting.f k a0).bind fun bt148 => ((laws_eqPainting.f k bt148.1 bt148.2.1 bt148.2.2.1 t141 t142 t143).bind fun t155 => (if t155 = true then (laws_FnExactParsePainting.j0 k a0 t146 (bt148.2.2.2 != t146) t141 t142 t143 bt148.1 bt148.2.1 bt148.2.2.1) else (laws_FnExactParsePainting.j0 k a0 t146 true t141 t142 t143 bt148.1 bt148.2.1 bt148.2.2.1)))) = some r := H
  have A3 := Aside0.mk A30
  clear A30
  replace H := Option.bind_eq_some_iff.mp H
  obtain ⟨⟨t148, t149, t150, t153⟩, A40, H⟩ := H
  replace H : ((laws_eqPainting.f k t148 t149 t150 t141 t142 t143).bind fun t155 => (if t155 = true then (laws_FnExactParsePainting.j0 k a0 t146 (t153 != t146) t141 t142 t143 t148 t149 t150) else (laws_FnExactParsePainting.j0 k a0 t146 true t141 t142 t143 t148 t149 t150))) = some r := H
  have A4 := Aside0.mk A40
  clear A40
  have HC5 := Aside0.mk H
  clear H
  go_enter Tryd.func3, Tryd.ntmps3
  go_upto_region 5 with (first | ((with_reducible refine gate_callee (f := 5) rfl ?_); refine goesL_ (some 16) rfl rfl Tryd.func5 (by kernel_rfl) rfl #[.string a0] rfl (by (try simp only [List.map_toArray, List.map_cons, List.map_nil]); first | done | rfl | (simp only [List.length_drop, List.length_take]; rfl)) ?_; (with_reducible refine (spec_ParsePainting.calls k a0 t141 t142 t143 t146 _ A3.out).mono ?_); rintro e w6 ⟨v144, rfl, ho0, hb⟩; refine ⟨_, rfl, ?_⟩; have n0_ := Aside0.mk (Kd.R_lower ho0 (below_size (by repeat (first | (with_reducible first | exact HB.out | apply below_alloc | apply pw_below_drewN | apply below_drew1) | exact HB.out)))); have n1_ := Aside0.mk (below_step (by repeat (first | (with_reducible first | exact HB.out | apply below_alloc | apply pw_below_drewN | apply below_drew1) | exact HB.out)) hb); clear HB; have HO145 := n0_; have HB := n1_; clear n0_ n1_; (try clear hb); (try clear hb2); (try clear hk); (try clear hi); (try clear ho0)) | ((with_reducible refine gate_dst (N := 3) rfl ?_); refine box_event ?hg (N := 3) ?hd (cs := #[.int .i64 0, .int .i64 0, .slice none 0 0]) (t := 24) ?hr ?_; (case hd => rfl); (case hg => rfl); (case hr => first | (go_simp; done) | (go_simp; rfl)); intro gb147 hg w7 hbox hb; have n0_ := Aside0.mk (Kd.R_below (by (with_reducible repeat (first | apply Kd.R_alloc | apply Kd.R_drewN | apply Kd.R_drew)); exact HO145.out) hb); have n1_ := Aside0.mk (below_step (by repeat (first | (with_reducible first | exact HB.out | apply below_alloc | apply pw_below_drewN | apply below_drew1) | exact HB.out)) hb); have n2_ := Aside0.mk (hbox); have n3_ := Aside0.mk ((by rw [hg]; exact (below_size (by repeat (first | (with_reducible first | exact HB.out | apply below_alloc | apply pw_below_drewN | apply below_drew1) | exact HB.out))) : w.heap.size ≤ gb147)); have n4_ := n3_; clear HO145; clear HB; have HO145 := n0_; have HB := n1_; have BK147 := n2_; have GW147 := n3_; have GE147 := n4_; clear n0_ n1_ n2_ n3_ n4_; clear hb hbox hg; have hcz8_0 : w7.cell? ⟨gb147, 0, none⟩ = some (.int .i64 0) := (blk_cell BK147.out 0).trans rfl; have hcz8_1 : w7.cell? ⟨gb147, 1, none⟩ = some (.int .i64 0) := (blk_cell BK147.out 1).trans rfl; have hcz8_2 : w7.cell? ⟨gb147, 2, none⟩ = some (.slice none 0 0) := (blk_cell BK147.out 2).trans rfl; have hfz8_0 := blk_frozen BK147.out 0; have hfz8_1 := blk_frozen BK147.out 1; have hfz8_2 := blk_frozen BK147.out 2; obtain ⟨Ao9, co9, eo9⟩ := Kd.R_slice HO145.out; subst eo9) | ((with_reducible refine gate_callee (f := 6) rfl ?_); refine goesL_ (some 21) rfl rfl Tryd.func6 (by kernel_rfl) rfl #[.string a0] rfl (by (try simp only [List.map_toArray, List.map_cons, List.map_nil]); first | done | rfl | (simp only [List.length_drop, List.length_take]; rfl)) ?_; (with_reducible refine (impl_ParsePainting.calls k a0 t148 t149 t150 t153 _ ?sideG A4.out).mono ?_); (case sideG => first | exact HG.out | exact Tab.below HG.out (by repeat (first | (with_reducible first | exact HB.out | apply below_alloc | apply pw_below_drewN | apply below_drew1 | refine below_set ?_ GE147.out) | exact HB.out))); rintro e w10 ⟨v151, rfl, ho0, hb⟩; refine ⟨_, rfl, ?_⟩; have n0_ := Aside0.mk (Kd.R_elder' (by (with_reducible repeat (first | apply Kd.R_alloc | apply Kd.R_drewN | apply Kd.R_drew)); exact (Kd.R_mono (Kd.R_far (p := ⟨gb147, 2, none⟩) (Kd.R_far (p := ⟨gb147, 1, none⟩) (Kd.R_far (p := ⟨gb147, 0, none⟩) (Kd.R_types HO145.out BK147.out (by decide)) (fun _ hk => hk.2) (.int .i64 t141)) (fun _ hk => hk.2) (.int .i64 t142)) (fun _ hk => hk.2) (.slice Ao9 t143.length co9)) (fun _ h_ => h_.1))) (Kd.R_base ho0) hb); have n1_ := Aside0.mk (Kd.R_lower (Kd.R_new' ho0 (Kd.R_lt (by (with_reducible repeat (first | apply Kd.R_alloc | apply Kd.R_drewN | apply Kd.R_drew)); exact (Kd.R_mono (Kd.R_far (p := ⟨gb147, 2, none⟩) (Kd.R_far (p := ⟨gb147, 1, none⟩) (Kd.R_far (p := ⟨gb147, 0, none⟩) (Kd.R_types HO145.out BK147.out (by decide)) (fun _ hk => hk.2) (.int .i64 t141)) (fun _ hk => hk.2) (.int .i64 t142)) (fun _ hk => hk.2) (.slice Ao9 t143.length co9)) (fun _ h_ => h_.1))))) (below_size (by repeat (first | (with_reducible first | exact HB.out | apply below_alloc | apply pw_below_drewN | apply below_drew1 | refine below_set ?_ GE147.out) | exact HB.out)))); have n2_ := Aside0.mk (blk_below (g := gb147) (o := .cells #[.int .i64 t141, .int .i64 t142, .slice Ao9 t143.length co9] 24 (0, 0)) (by (with_reducible repeat (first | refine blk_drewN ?_ _ | refine blk_drew ?_ | refine blk_alloc ?_ _)); refine blk_put (cs := #[.int .i64 t141, .int .i64 t142, .slice none 0 0]) ?_ 2 _ rfl; (with_reducible repeat (first | refine blk_drewN ?_ _ | refine blk_drew ?_ | refine blk_alloc ?_ _)); refine blk_put (cs := #[.int .i64 t141, .int .i64 0, .slice none 0 0]) ?_ 1 _ rfl; (with_reducible repeat (first | refine blk_drewN ?_ _ | refine blk_drew ?_ | refine blk_alloc ?_ _)); refine blk_put (cs := #[.int .i64 0, .int .i64 0, .slice none 0 0]) ?_ 0 _ rfl; (with_reducible repeat (first | refine blk_drewN ?_ _ | refine blk_drew ?_ | refine blk_alloc ?_ _)); exact BK147.out) hb); have n3_ := Aside0.mk (below_step (by repeat (first | (with_reducible first | exact HB.out | apply below_alloc | apply pw_below_drewN | apply below_drew1 | refine below_set ?_ GE147.out) | exact HB.out)) hb); clear HO145; clear BK147; clear HB; have HO145 := n0_; have HO152 := n1_; have BK147 := n2_; have HB := n3_; clear n0_ n1_ n2_ n3_; (try clear hb); (try clear hb2); (try clear hk); (try clear hi); (try clear ho0)) | ((with_reducible refine gate_dst (N := 5) rfl ?_); refine box_event ?hg (N := 5) ?hd (cs := #[.int .i64 0, .int .i64 0, .slice none 0 0]) (t := 24) ?hr ?_; (case hd => rfl); (case hg => rfl); (case hr => first | (go_simp; done) | (go_simp; rfl)); intro gb154 hg w11 hbox hb; have n0_ := Aside0.mk (Kd.R_below (by (with_reducible repeat (first | apply Kd.R_alloc | apply Kd.R_drewN | apply Kd.R_drew)); exact HO145.out) hb); have n1_ := Aside0.mk (Kd.R_below (by (with_reducible repeat (first | apply Kd.R_alloc | apply Kd.R_drewN | apply Kd.R_drew)); exact HO152.out) hb); have n2_ := Aside0.mk (blk_below (g := gb147) (o := .cells #[.int .i64 t141, .int .i64 t142, .slice Ao9 t143.length co9] 24 (0, 0)) (by (with_reducible repeat (first | refine blk_drewN ?_ _ | refine blk_drew ?_ | refine blk_alloc ?_ _)); exact BK147.out) hb); have n3_ := Aside0.mk (below_step (by repeat (first | (with_reducible first | exact HB.out | apply below_alloc | apply pw_below_drewN | apply below_drew1 | refine below_set ?_ GE147.out) | exact HB.out)) hb); have n4_ := Aside0.mk (hbox); have n5_ := Aside0.mk ((by rw [hg]; exact (below_size (by repeat (first | (with_reducible first | exact HB.out | apply below_alloc | apply pw_below_drewN | apply below_drew1 | refine below_set ?_ GE147.out) | exact HB.out))) : w.heap.size ≤ gb154)); have n6_ := n5_; have n7_ := Aside0.mk ((by rw [hg]; exact Nat.ne_of_lt (blk_lt (g := gb147) (o := .cells #[.int .i64 t141, .int .i64 t142, .slice Ao9 t143.length co9] 24 (0, 0)) (by (with_reducible repeat (first | refine blk_drewN ?_ _ | refine blk_drew ?_ | refine blk_alloc ?_ _)); exact BK147.out)) : gb147 ≠ gb154)); have n8_ := Aside0.mk n7_.out.symm; clear HO145; clear HO152; clear BK147; clear HB; have HO145 := n0_; have HO152 := n1_; have BK147 := n2_; have HB := n3_; have BK154 := n4_; have GW154 := n5_; have GE154 := n6_; have NB147_154 := n7_; have NB154_147 := n8_; clear n0_ n1_ n2_ n3_ n4_ n5_ n6_ n7_ n8_; clear hb hbox hg; have hnb12 := NB154_147.out; have hnc12 := NB147_154.out; have hcz13_0 : w11.cell? ⟨gb154, 0, none⟩ = some (.int .i64 0) := (blk_cell BK154.out 0).trans rfl; have hcz13_1 : w11.cell? ⟨gb154, 1, none⟩ = some (.int .i64 0) := (blk_cell BK154.out 1).trans rfl; have hcz13_2 : w11.cell? ⟨gb154, 2, none⟩ = some (.slice none 0 0) := (blk_cell BK154.out 2).trans rfl; have hfz13_0 := blk_frozen BK154.out 0; have hfz13_1 := blk_frozen BK154.out 1; have hfz13_2 := blk_frozen BK154.out 2; obtain ⟨Ao14, co14, eo14⟩ := Kd.R_slice HO152.out; subst eo14))
  (try simp only [Act.put, List.setIfInBounds_toArray, List.set_cons_zero, List.set_cons_succ])
  go_cut [32] (fun v32 wc => ∃ (kq : Nat) (x32_4 : Bool), v32 = .bool x32_4 ∧ Aside0 (laws_FnExactParsePainting.j0 kq a0 t146 x32_4 t141 t142 t143 t148 t149 t150 = some r) ∧ Aside0 (kq ≤ k) ∧ Aside0 (Kd.R (Kd.int .i64) 3 wc w.heap.size (fun k_ => some k_ ≠ ((.slice Ao14 t150.length co14) : Value).ownBlock) (.slice Ao9 t143.length co9) t143) ∧ Aside0 (Kd.R (Kd.int .i64) 3 wc w.heap.size (fun k_ => some k_ ≠ ((.slice Ao9 t143.length co9) : Value).ownBlock) (.slice Ao14 t150.length co14) t150) ∧ Aside0 (wc.heap[gb147]? = some (.cells #[.int .i64 t141, .int .i64 t142, (.slice Ao9 t143.length co9)] 24 (0, 0))) ∧ Aside0 (wc.heap[gb154]? = some (.cells #[.int .i64 t148, .int .i64 t149, (.slice Ao14 t150.length co14)] 24 (0, 0))) ∧ Aside0 (Below w.heap.size w wc))
  case first =>
   have H := HC5.out
   clear HC5
   replace H := Option.bind_eq_some_iff.mp H
   obtain ⟨t155, A150, H⟩ := H
   replace H : (if t155 = true then (laws_FnExactParsePainting.j0 k a0 t146 (t153 != t146) t141 t142 t143 t148 t149 t150) else (laws_FnExactParsePainting.j0 k a0 t146 true t141 t142 t143 t148 t149 t150)) = some r := H
   have A15 := Aside0.mk A150
   clear A150
   by_cases c16 : t155 = true
   ·subst c16
    have H1 : (laws_FnExactParsePainting.j0 k a0 t146 (t153 != t146) t141 t142 t143 t148 t149 t150) = some r := by rw [if_pos rfl] at H; exact H
    clear H
    have H := H1
    clear H1
    have H' := Aside0.mk H
    clear H
    have hnb17 := NB154_147.out
    have hnc17 := NB147_154.out
    have hcz18_0 : w11.cell? ⟨gb154, 0, none⟩ = some (.int .i64 0) := (blk_cell BK154.out 0).trans rfl
    have hcz18_1 : w11.cell? ⟨gb154, 1, none⟩ = some (.int .i64 0) := (blk_cell BK154.out 1).trans rfl
    have hcz18_2 : w11.cell? ⟨gb154, 2, none⟩ = some (.slice none 0 0) := (blk_cell BK154.out 2).trans rfl
    have hfz18_0 := blk_frozen BK154.out 0
    have hfz18_1 := blk_frozen BK154.out 1
    have hfz18_2 := blk_frozen BK154.out 2
    have hcz19_0 : w11.cell? ⟨gb147, 0, none⟩ = some (.int .i64 t141) := (blk_cell BK147.out 0).trans rfl
    have hcz19_1 : w11.cell? ⟨gb147, 1, none⟩ = some (.int .i64 t142) := (blk_cell BK147.out 1).trans rfl
    have hcz19_2 : w11.cell? ⟨gb147, 2, none⟩ = some (.slice Ao9 t143.length co9) := (blk_cell BK147.out 2).trans rfl
    have hfz19_0 := blk_frozen BK147.out 0
    have hfz19_1 := blk_frozen BK147.out 1
    have hfz19_2 := blk_frozen BK147.out 2
    go_wp2_with (first | ((with_reducible refine gate_callee (f := 7) rfl ?_); refine goesL_ (some 26) rfl rfl Tryd.func7 (by kernel_rfl) rfl #[.agg #[.int .i64 t148, .int .i64 t149, .slice Ao14 t150.length co14], .agg #[.int .i64 t141, .int .i64 t142, .slice Ao9 t143.length co9]] rfl (by (try simp only [List.map_toArray, List.map_cons, List.map_nil]); first | done | rfl | (simp only [List.length_drop, List.length_take]; rfl)) ?_; (with_reducible refine (laws_eqPainting.calls k t148 t149 _ _ t150 t141 t142 _ _ t143 true _ ?side1 ?side2 ?side3 ?side4 A15.out).mono ?_); (case side1 => refine (Kd.R_reads' (e := 3) (base := w.heap.size) (ok := fun k_ => (True ∧ some k_ ≠ (.slice Ao9 t143.length co9 : Value).ownBlock)) (n := t150.length) (c := co14) ?_).2.2; exact (by (with_reducible repeat (first | apply Kd.R_alloc | apply Kd.R_drewN | apply Kd.R_drew)); exact (Kd.R_mono (Kd.R_far (p := ⟨gb154, 2, none⟩) (Kd.R_far (p := ⟨gb154, 1, none⟩) (Kd.R_far (p := ⟨gb154, 0, none⟩) (Kd.R_types HO152.out BK154.out (by decide)) (fun _ hk => hk.2) (.int .i64 t148)) (fun _ hk => hk.2) (.int .i64 t149)) (fun _ hk => hk.2) (.slice Ao14 t150.length co14)) (fun _ h_ => h_.1)))); (case side2 => exact (Kd.R_reads' HO152.out).2.1); (case side3 => refine (Kd.R_reads' (e := 3) (base := w.heap.size) (ok := fun k_ => (True ∧ some k_ ≠ (.slice Ao14 t150.length co14 : Value).ownBlock)) (n := t143.length) (c := co9) ?_).2.2; exact (by (with_reducible repeat (first | apply Kd.R_alloc | apply Kd.R_drewN | apply Kd.R_drew)); exact (Kd.R_mono (Kd.R_far (p := ⟨gb154, 2, none⟩) (Kd.R_far (p := ⟨gb154, 1, none⟩) (Kd.R_far (p := ⟨gb154, 0, none⟩) (Kd.R_types HO145.out BK154.out (by decide)) (fun _ hk => hk.2) (.int .i64 t148)) (fun _ hk => hk.2) (.int .i64 t149)) (fun _ hk => hk.2) (.slice Ao14 t150.length co14)) (fun _ h_ => h_.1)))); (case side4 => exact (Kd.R_reads' HO145.out).2.1); rintro e w20 ⟨rfl, hb⟩; refine ⟨_, rfl, ?_⟩; have n0_ := Aside0.mk (Kd.R_below (by (with_reducible repeat (first | apply Kd.R_alloc | apply Kd.R_drewN | apply Kd.R_drew)); exact (Kd.R_mono (Kd.R_far (p := ⟨gb154, 2, none⟩) (Kd.R_far (p := ⟨gb154, 1, none⟩) (Kd.R_far (p := ⟨gb154, 0, none⟩) (Kd.R_types HO145.out BK154.out (by decide)) (fun _ hk => hk.2) (.int .i64 t148)) (fun _ hk => hk.2) (.int .i64 t149)) (fun _ hk => hk.2) (.slice Ao14 t150.length co14)) (fun _ h_ => h_.1))) hb); have n1_ := Aside0.mk (Kd.R_below (by (with_reducible repeat (first | apply Kd.R_alloc | apply Kd.R_drewN | apply Kd.R_drew)); exact (Kd.R_mono (Kd.R_far (p := ⟨gb154, 2, none⟩) (Kd.R_far (p := ⟨gb154, 1, none⟩) (Kd.R_far (p := ⟨gb154, 0, none⟩) (Kd.R_types HO152.out BK154.out (by decide)) (fun _ hk => hk.2) (.int .i64 t148)) (fun _ hk => hk.2) (.int .i64 t149)) (fun _ hk => hk.2) (.slice Ao14 t150.length co14)) (fun _ h_ => h_.1))) hb); have n2_ := Aside0.mk (blk_below (g := gb147) (o := .cells #[.int .i64 t141, .int .i64 t142, .slice Ao9 t143.length co9] 24 (0, 0)) (by (with_reducible repeat (first | refine blk_drewN ?_ _ | refine blk_drew ?_ | refine blk_alloc ?_ _)); refine blk_far ?_ NB147_154.out _; (with_reducible repeat (first | refine blk_drewN ?_ _ | refine blk_drew ?_ | refine blk_alloc ?_ _)); refine blk_far ?_ NB147_154.out _; (with_reducible repeat (first | refine blk_drewN ?_ _ | refine blk_drew ?_ | refine blk_alloc ?_ _)); refine blk_far ?_ NB147_154.out _; (with_reducible repeat (first | refine blk_drewN ?_ _ | refine blk_drew ?_ | refine blk_alloc ?_ _)); exact BK147.out) hb); have n3_ := Aside0.mk (blk_below (g := gb154) (o := .cells #[.int .i64 t148, .int .i64 t149, .slice Ao14 t150.length co14] 24 (0, 0)) (by (with_reducible repeat (first | refine blk_drewN ?_ _ | refine blk_drew ?_ | refine blk_alloc ?_ _)); refine blk_put (cs := #[.int .i64 t148, .int .i64 t149, .slice none 0 0]) ?_ 2 _ rfl; (with_reducible repeat (first | refine blk_drewN ?_ _ | refine blk_drew ?_ | refine blk_alloc ?_ _)); refine blk_put (cs := #[.int .i64 t148, .int .i64 0, .slice none 0 0]) ?_ 1 _ rfl; (with_reducible repeat (first | refine blk_drewN ?_ _ | refine blk_drew ?_ | refine blk_alloc ?_ _)); refine blk_put (cs := #[.int .i64 0, .int .i64 0, .slice none 0 0]) ?_ 0 _ rfl; (with_reducible repeat (first | refine blk_drewN ?_ _ | refine blk_drew ?_ | refine blk_alloc ?_ _)); exact BK154.out) hb); have n4_ := Aside0.mk (below_step (by repeat (first | (with_reducible first | exact HB.out | apply below_alloc | apply pw_below_drewN | apply below_drew1 | refine below_set ?_ GE147.out | refine below_set ?_ GE154.out) | exact HB.out)) hb); clear HO145; clear HO152; clear BK147; clear BK154; clear HB; have HO145 := n0_; have HO152 := n1_; have BK147 := n2_; have BK154 := n3_; have HB := n4_; clear n0_ n1_ n2_ n3_ n4_; (try clear hb); (try clear hb2); (try clear hk); (try clear hi)))
    go_meet
    case rel => exact ⟨_, ((t153 != t146)), (by first | rfl | (simp; done) | (simp [*]; done)), H', ⟨by first | omega | exact Nat.le_refl _⟩, ⟨by (with_reducible repeat (first | apply Kd.R_alloc | apply Kd.R_drewN | apply Kd.R_drew)); exact Kd.R_mono HO145.out (fun _ hk => hk.2)⟩, ⟨by (with_reducible repeat (first | apply Kd.R_alloc | apply Kd.R_drewN | apply Kd.R_drew)); exact Kd.R_mono HO152.out (fun _ hk => hk.2)⟩, ⟨by (with_reducible repeat (first | refine blk_drewN ?_ _ | refine blk_drew ?_ | refine blk_alloc ?_ _)); exact BK147.out⟩, ⟨by (with_reducible repeat (first | refine blk_drewN ?_ _ | refine blk_drew ?_ | refine blk_alloc ?_ _)); exact BK154.out⟩, ⟨by repeat (first | (with_reducible first | exact HB.out | apply below_alloc | apply pw_below_drewN | apply below_drew1 | refine below_set ?_ GE147.out | refine below_set ?_ GE154.out) | exact HB.out)⟩⟩
   ·replace c16 := Bool.eq_false_iff.mpr c16
    subst c16
    have H1 : (laws_FnExactParsePainting.j0 k a0 t146 true t141 t142 t143 t148 t149 t150) = some r := by rw [if_neg (show ¬ (false = true) by decide)] at H; exact H
    clear H
    have H := H1
    clear H1
    have H' := Aside0.mk H
    clear H
    have hnb21 := NB154_147.out
    have hnc21 := NB147_154.out
    have hcz22_0 : w11.cell? ⟨gb154, 0, none⟩ = some (.int .i64 0) := (blk_cell BK154.out 0).trans rfl
    have hcz22_1 : w11.cell? ⟨gb154, 1, none⟩ = some (.int .i64 0) := (blk_cell BK154.out 1).trans rfl
    have hcz22_2 : w11.cell? ⟨gb154, 2, none⟩ = some (.slice none 0 0) := (blk_cell BK154.out 2).trans rfl
    have hfz22_0 := blk_frozen BK154.out 0
    have hfz22_1 := blk_frozen BK154.out 1
    have hfz22_2 := blk_frozen BK154.out 2
    have hcz23_0 : w11.cell? ⟨gb147, 0, none⟩ = some (.int .i64 t141) := (blk_cell BK147.out 0).trans rfl
    have hcz23_1 : w11.cell? ⟨gb147, 1, none⟩ = some (.int .i64 t142) := (blk_cell BK147.out 1).trans rfl
    have hcz23_2 : w11.cell? ⟨gb147, 2, none⟩ = some (.slice Ao9 t143.length co9) := (blk_cell BK147.out 2).trans rfl
    have hfz23_0 := blk_frozen BK147.out 0
    have hfz23_1 := blk_frozen BK147.out 1
    have hfz23_2 := blk_frozen BK147.out 2
    go_wp2_with (first | ((with_reducible refine gate_callee (f := 7) rfl ?_); refine goesL_ (some 26) rfl rfl Tryd.func7 (by kernel_rfl) rfl #[.agg #[.int .i64 t148, .int .i64 t149, .slice Ao14 t150.length co14], .agg #[.int .i64 t141, .int .i64 t142, .slice Ao9 t143.length co9]] rfl (by (try simp only [List.map_toArray, List.map_cons, List.map_nil]); first | done | rfl | (simp only [List.length_drop, List.length_take]; rfl)) ?_; (with_reducible refine (laws_eqPainting.calls k t148 t149 _ _ t150 t141 t142 _ _ t143 false _ ?side1 ?side2 ?side3 ?side4 A15.out).mono ?_); (case side1 => refine (Kd.R_reads' (e := 3) (base := w.heap.size) (ok := fun k_ => (True ∧ some k_ ≠ (.slice Ao9 t143.length co9 : Value).ownBlock)) (n := t150.length) (c := co14) ?_).2.2; exact (by (with_reducible repeat (first | apply Kd.R_alloc | apply Kd.R_drewN | apply Kd.R_drew)); exact (Kd.R_mono (Kd.R_far (p := ⟨gb154, 2, none⟩) (Kd.R_far (p := ⟨gb154, 1, none⟩) (Kd.R_far (p := ⟨gb154, 0, none⟩) (Kd.R_types HO152.out BK154.out (by decide)) (fun _ hk => hk.2) (.int .i64 t148)) (fun _ hk => hk.2) (.int .i64 t149)) (fun _ hk => hk.2) (.slice Ao14 t150.length co14)) (fun _ h_ => h_.1)))); (case side2 => exact (Kd.R_reads' HO152.out).2.1); (case side3 => refine (Kd.R_reads' (e := 3) (base := w.heap.size) (ok := fun k_ => (True ∧ some k_ ≠ (.slice Ao14 t150.length co14 : Value).ownBlock)) (n := t143.length) (c := co9) ?_).2.2; exact (by (with_reducible repeat (first | apply Kd.R_alloc | apply Kd.R_drewN | apply Kd.R_drew)); exact (Kd.R_mono (Kd.R_far (p := ⟨gb154, 2, none⟩) (Kd.R_far (p := ⟨gb154, 1, none⟩) (Kd.R_far (p := ⟨gb154, 0, none⟩) (Kd.R_types HO145.out BK154.out (by decide)) (fun _ hk => hk.2) (.int .i64 t148)) (fun _ hk => hk.2) (.int .i64 t149)) (fun _ hk => hk.2) (.slice Ao14 t150.length co14)) (fun _ h_ => h_.1)))); (case side4 => exact (Kd.R_reads' HO145.out).2.1); rintro e w24 ⟨rfl, hb⟩; refine ⟨_, rfl, ?_⟩; have n0_ := Aside0.mk (Kd.R_below (by (with_reducible repeat (first | apply Kd.R_alloc | apply Kd.R_drewN | apply Kd.R_drew)); exact (Kd.R_mono (Kd.R_far (p := ⟨gb154, 2, none⟩) (Kd.R_far (p := ⟨gb154, 1, none⟩) (Kd.R_far (p := ⟨gb154, 0, none⟩) (Kd.R_types HO145.out BK154.out (by decide)) (fun _ hk => hk.2) (.int .i64 t148)) (fun _ hk => hk.2) (.int .i64 t149)) (fun _ hk => hk.2) (.slice Ao14 t150.length co14)) (fun _ h_ => h_.1))) hb); have n1_ := Aside0.mk (Kd.R_below (by (with_reducible repeat (first | apply Kd.R_alloc | apply Kd.R_drewN | apply Kd.R_drew)); exact (Kd.R_mono (Kd.R_far (p := ⟨gb154, 2, none⟩) (Kd.R_far (p := ⟨gb154, 1, none⟩) (Kd.R_far (p := ⟨gb154, 0, none⟩) (Kd.R_types HO152.out BK154.out (by decide)) (fun _ hk => hk.2) (.int .i64 t148)) (fun _ hk => hk.2) (.int .i64 t149)) (fun _ hk => hk.2) (.slice Ao14 t150.length co14)) (fun _ h_ => h_.1))) hb); have n2_ := Aside0.mk (blk_below (g := gb147) (o := .cells #[.int .i64 t141, .int .i64 t142, .slice Ao9 t143.length co9] 24 (0, 0)) (by (with_reducible repeat (first | refine blk_drewN ?_ _ | refine blk_drew ?_ | refine blk_alloc ?_ _)); refine blk_far ?_ NB147_154.out _; (with_reducible repeat (first | refine blk_drewN ?_ _ | refine blk_drew ?_ | refine blk_alloc ?_ _)); refine blk_far ?_ NB147_154.out _; (with_reducible repeat (first | refine blk_drewN ?_ _ | refine blk_drew ?_ | refine blk_alloc ?_ _)); refine blk_far ?_ NB147_154.out _; (with_reducible repeat (first | refine blk_drewN ?_ _ | refine blk_drew ?_ | refine blk_alloc ?_ _)); exact BK147.out) hb); have n3_ := Aside0.mk (blk_below (g := gb154) (o := .cells #[.int .i64 t148, .int .i64 t149, .slice Ao14 t150.length co14] 24 (0, 0)) (by (with_reducible repeat (first | refine blk_drewN ?_ _ | refine blk_drew ?_ | refine blk_alloc ?_ _)); refine blk_put (cs := #[.int .i64 t148, .int .i64 t149, .slice none 0 0]) ?_ 2 _ rfl; (with_reducible repeat (first | refine blk_drewN ?_ _ | refine blk_drew ?_ | refine blk_alloc ?_ _)); refine blk_put (cs := #[.int .i64 t148, .int .i64 0, .slice none 0 0]) ?_ 1 _ rfl; (with_reducible repeat (first | refine blk_drewN ?_ _ | refine blk_drew ?_ | refine blk_alloc ?_ _)); refine blk_put (cs := #[.int .i64 0, .int .i64 0, .slice none 0 0]) ?_ 0 _ rfl; (with_reducible repeat (first | refine blk_drewN ?_ _ | refine blk_drew ?_ | refine blk_alloc ?_ _)); exact BK154.out) hb); have n4_ := Aside0.mk (below_step (by repeat (first | (with_reducible first | exact HB.out | apply below_alloc | apply pw_below_drewN | apply below_drew1 | refine below_set ?_ GE147.out | refine below_set ?_ GE154.out) | exact HB.out)) hb); clear HO145; clear HO152; clear BK147; clear BK154; clear HB; have HO145 := n0_; have HO152 := n1_; have BK147 := n2_; have BK154 := n3_; have HB := n4_; clear n0_ n1_ n2_ n3_ n4_; (try clear hb); (try clear hb2); (try clear hk); (try clear hi)))
    go_meet
    case rel => exact ⟨_, (true), (by first | rfl | (simp; done) | (simp [*]; done)), H', ⟨by first | omega | exact Nat.le_refl _⟩, ⟨by (with_reducible repeat (first | apply Kd.R_alloc | apply Kd.R_drewN | apply Kd.R_drew)); exact Kd.R_mono HO145.out (fun _ hk => hk.2)⟩, ⟨by (with_reducible repeat (first | apply Kd.R_alloc | apply Kd.R_drewN | apply Kd.R_drew)); exact Kd.R_mono HO152.out (fun _ hk => hk.2)⟩, ⟨by (with_reducible repeat (first | refine blk_drewN ?_ _ | refine blk_drew ?_ | refine blk_alloc ?_ _)); exact BK147.out⟩, ⟨by (with_reducible repeat (first | refine blk_drewN ?_ _ | refine blk_drew ?_ | refine blk_alloc ?_ _)); exact BK154.out⟩, ⟨by repeat (first | (with_reducible first | exact HB.out | apply below_alloc | apply pw_below_drewN | apply below_drew1 | refine below_set ?_ GE147.out | refine below_set ?_ GE154.out) | exact HB.out)⟩⟩
  case rest =>
   clear HC5
   try clear c1
   try clear c2
   try clear c2b0
   try clear c2b1
   try clear p2
   try clear c3
   try clear c5
   try clear c6
   try clear c7
   try clear c12
   try clear c16
   try clear c17
   try clear c21
   try clear hcz13_0
   try clear hcz13_1
   try clear hcz13_2
   try clear hcz18_0
   try clear hcz18_1
   try clear hcz18_2
   try clear hcz19_0
   try clear hcz19_1
   try clear hcz19_2
   try clear hcz22_0
   try clear hcz22_1
   try clear hcz22_2
   try clear hcz23_0
   try clear hcz23_1
   try clear hcz23_2
   try clear hcz8_0
   try clear hcz8_1
   try clear hcz8_2
   try clear hfz13_0
   try clear hfz13_1
   try clear hfz13_2
   try clear hfz18_0
   try clear hfz18_1
   try clear hfz18_2
   try clear hfz19_0
   try clear hfz19_1
   try clear hfz19_2
   try clear hfz22_0
   try clear hfz22_1
   try clear hfz22_2
   try clear hfz23_0
   try clear hfz23_1
   try clear hfz23_2
   try clear hfz8_0
   try clear hfz8_1
   try clear hfz8_2
   obtain ⟨kq, x32_4, rfl, HA, HJ4, HO_148002, HO_155002, BK147, BK154, HB⟩ := hcut
   cases kq with
   | zero => exact absurd HA.out (by simp [laws_FnExactParsePainting.j0])
   | succ kj4 =>
    have H := HA.out
    clear HA
    simp only [laws_FnExactParsePainting.j0] at H
    by_cases c25 : x32_4 = true
    ·subst c25
     have H1 : (some false) = some r := by rw [if_pos rfl] at H; exact H
     clear H
     have H := H1
     clear H1
     obtain rfl := Option.some.inj H
     go_wp2
     go_ret
     exact ⟨by first | rfl | (simp [errW_none, errW_some] <;> rfl) | (simp [*, errW_none, errW_some] <;> rfl), by repeat (first | (with_reducible first | exact HB.out | apply below_alloc | apply pw_below_drewN | apply below_drew1 | refine below_set ?_ GE147.out | refine below_set ?_ GE154.out) | exact HB.out)⟩
    ·replace c25 := Bool.eq_false_iff.mpr c25
     subst c25
     have H1 : ((laws_markPainting.f kj4 t148 t149 t150 1).bind fun bt156 => ((laws_heldPainting.f kj4 t148 t149 bt156.2 1).bind fun t158 => (if t158 < 0 then (some false) else (if t158 = bt156.1 then ((impl_ParsePainting.f kj4 a0).bind fun bt159 => ((laws_eqPainting.f kj4 bt159.1 bt159.2.1 bt159.2.2.1 t141 t142 t143).bind fun t166 => (if t166 = true then (laws_FnExactParsePainting.j1 kj4 bt156.1 (bt159.2.2.2 != t146) t148 t149 bt156.2) else (laws_FnExactParsePainting.j1 kj4 bt156.1 true t148 t149 bt156.2)))) else (some false))))) = some r := by rw [if_neg (show ¬ (false = true) by decide)] at H; exact H
     clear H
     have H := H1
     clear H1
     replace H := Option.bind_eq_some_iff.mp H
     obtain ⟨⟨t156, t157⟩, A260, H⟩ := H
     replace H : ((laws_heldPainting.f kj4 t148 t149 t157 1).bind fun t158 => (if t158 < 0 then (some false) else (if t158 = t156 then ((impl_ParsePainting.f kj4 a0).bind fun bt159 => ((laws_eqPainting.f kj4 bt159.1 bt159.2.1 bt159.2.2.1 t141 t142 t143).bind fun t166 => (if t166 = true then (laws_FnExactParsePainting.j1 kj4 t156 (bt159.2.2.2 != t146) t148 t149 t157) else (laws_FnExactParsePainting.j1 kj4 t156 true t148 t149 t157)))) else (some false)))) = some r := H
     have A26 := Aside0.mk A260
     clear A260
     replace H := Option.bind_eq_some_iff.mp H
     obtain ⟨t158, A270, H⟩ := H
     replace H : (if t158 < 0 then (some false) else (if t158 = t156 then ((impl_ParsePainting.f kj4 a0).bind fun bt159 => ((laws_eqPainting.f kj4 bt159.1 bt159.2.1 bt159.2.2.1 t141 t142 t143).bind fun t166 => (if t166 = true then (laws_FnExactParsePainting.j1 kj4 t156 (bt159.2.2.2 != t146) t148 t149 t157) else (laws_FnExactParsePainting.j1 kj4 t156 true t148 t149 t157)))) else (some false))) = some r := H
     have A27 := Aside0.mk A270
     clear A270
     by_cases c28 : t158 < 0
     ·rw [if_pos c28] at H
      have c28b0 : decide (t158 < 0) = true := decide_eq_true c28
      clear c28
      obtain rfl := Option.some.inj H
      have hnb29 := NB154_147.out
      have hnc29 := NB147_154.out
      have hcz30_0 : wc.cell? ⟨gb154, 0, none⟩ = some (.int .i64 t148) := (blk_cell BK154.out 0).trans rfl
      have hcz30_1 : wc.cell? ⟨gb154, 1, none⟩ = some (.int .i64 t149) := (blk_cell BK154.out 1).trans rfl
      have hcz30_2 : wc.cell? ⟨gb154, 2, none⟩ = some (.slice Ao14 t150.length co14) := (blk_cell BK154.out 2).trans rfl
      have hfz30_0 := blk_frozen BK154.out 0
      have hfz30_1 := blk_frozen BK154.out 1
      have hfz30_2 := blk_frozen BK154.out 2
      go_wp2_with (first | ((with_reducible refine gate_callee (f := 8) rfl ?_); refine goesL_ (some 35) rfl rfl Tryd.func8 (by kernel_rfl) rfl #[.agg #[.int .i64 t148, .int .i64 t149, .slice Ao14 t150.length co14], .int .i64 1] rfl (by (try simp only [List.map_toArray, List.map_cons, List.map_nil]); first | done | rfl | (simp only [List.length_drop, List.length_take]; rfl)) ?_; (with_reducible refine (laws_markPainting.calls kj4 t148 t149 (fun k_ => some k_ = (.slice Ao14 t150.length co14 : Value).ownBlock) (.slice Ao14 t150.length co14) t150 1 t156 t157 w _ ?side1 ?side2 A26.out).mono ?_); (case side1 => repeat (first | (with_reducible first | exact HB.out | apply below_alloc | apply pw_below_drewN | apply below_drew1 | refine below_set ?_ GE147.out | refine below_set ?_ GE154.out) | exact HB.out)); (case side2 => exact Kd.R_tight rfl HO_155002.out); rintro e w31 ⟨rfl, hy0, hb, hkp⟩; refine ⟨_, rfl, ?_⟩; have n0_ := Aside0.mk (Kd.R_mono (ok' := fun k_ => some k_ ≠ (.slice Ao14 t150.length co14 : Value).ownBlock) (Kd.R_keptB (HO_148002.out) hkp (fun k_ hk_ hs_ => (hk_) hs_)) (fun k_ hk_ => hk_.1)); have n1_ := Aside0.mk (Kd.R_reok rfl hy0 (fun k_ e_ => HO_155002.out.1 k_ e_)); have n2_ := Aside0.mk (blk_kept (by (with_reducible repeat (first | refine blk_drewN ?_ _ | refine blk_drew ?_ | refine blk_alloc ?_ _)); exact BK147.out) hkp (fun hs_ => (fun e_ => (Kd.R_ne HO_155002.out BK147.out (by decide)) e_) hs_)); have n3_ := Aside0.mk (blk_kept (by (with_reducible repeat (first | refine blk_drewN ?_ _ | refine blk_drew ?_ | refine blk_alloc ?_ _)); exact BK154.out) hkp (fun hs_ => (fun e_ => (Kd.R_ne HO_155002.out BK154.out (by decide)) e_) hs_)); have n4_ := Aside0.mk (hb); clear HO_148002; clear HO_155002; clear BK147; clear BK154; clear HB; have HO_148002 := n0_; have HO_155002 := n1_; have BK147 := n2_; have BK154 := n3_; have HB := n4_; clear n0_ n1_ n2_ n3_ n4_; (try clear hb); (try clear hkp); (try clear hy0); have hcz32_0 : w31.cell? ⟨gb154, 0, none⟩ = some (.int .i64 t148) := (blk_cell BK154.out 0).trans rfl; have hcz32_1 : w31.cell? ⟨gb154, 1, none⟩ = some (.int .i64 t149) := (blk_cell BK154.out 1).trans rfl; have hcz32_2 : w31.cell? ⟨gb154, 2, none⟩ = some (.slice Ao14 t150.length co14) := (blk_cell BK154.out 2).trans rfl; have hfz32_0 := blk_frozen BK154.out 0; have hfz32_1 := blk_frozen BK154.out 1; have hfz32_2 := blk_frozen BK154.out 2) | ((with_reducible refine gate_callee (f := 9) rfl ?_); refine goesL_ (some 38) rfl rfl Tryd.func9 (by kernel_rfl) rfl #[.agg #[.int .i64 t148, .int .i64 t149, .slice Ao14 t157.length co14], .int .i64 1] rfl (by (try simp only [List.map_toArray, List.map_cons, List.map_nil]); first | done | (rw [show t157.length = t150.length from (Kd.R_reads' HO_155002.out).1.symm] <;> rfl) | rfl | (simp only [List.length_drop, List.length_take]; rfl)) ?_; (with_reducible refine (laws_heldPainting.calls kj4 t148 t149 _ _ t157 1 t158 _ ?side1 ?side2 A27.out).mono ?_); (case side1 => repeat (first | exact (Kd.R_reads' HO_155002.out).2.2 | (with_reducible refine Kd.C_alloc ?_ _) | (with_reducible refine Kd.C_drewN ?_ _) | (with_reducible refine Kd.C_drew ?_))); (case side2 => rw [show t157.length = t150.length from (Kd.R_reads' HO_155002.out).1.symm]; exact (Kd.R_reads' HO_155002.out).2.1); rintro e w33 ⟨rfl, hb⟩; refine ⟨_, rfl, ?_⟩; have n0_ := Aside0.mk (Kd.R_below (by (with_reducible repeat (first | apply Kd.R_alloc | apply Kd.R_drewN | apply Kd.R_drew)); exact HO_148002.out) hb); have n1_ := Aside0.mk (Kd.R_below (by (with_reducible repeat (first | apply Kd.R_alloc | apply Kd.R_drewN | apply Kd.R_drew)); exact HO_155002.out) hb); have n2_ := Aside0.mk (blk_below (g := gb147) (o := .cells #[.int .i64 t141, .int .i64 t142, .slice Ao9 t143.length co9] 24 (0, 0)) (by (with_reducible repeat (first | refine blk_drewN ?_ _ | refine blk_drew ?_ | refine blk_alloc ?_ _)); exact BK147.out) hb); have n3_ := Aside0.mk (blk_below (g := gb154) (o := .cells #[.int .i64 t148, .int .i64 t149, .slice Ao14 t150.length co14] 24 (0, 0)) (by (with_reducible repeat (first | refine blk_drewN ?_ _ | refine blk_drew ?_ | refine blk_alloc ?_ _)); exact BK154.out) hb); have n4_ := Aside0.mk (below_step (by repeat (first | (with_reducible first | exact HB.out | apply below_alloc | apply pw_below_drewN | apply below_drew1 | refine below_set ?_ GE147.out | refine below_set ?_ GE154.out) | exact HB.out)) hb); clear HO_148002; clear HO_155002; clear BK147; clear BK154; clear HB; have HO_148002 := n0_; have HO_155002 := n1_; have BK147 := n2_; have BK154 := n3_; have HB := n4_; clear n0_ n1_ n2_ n3_ n4_; (try clear hb); (try clear hb2); (try clear hk); (try clear hi)))
      go_ret
      exact ⟨by first | rfl | (simp [errW_none, errW_some] <;> rfl) | (simp [*, errW_none, errW_some] <;> rfl), by repeat (first | (with_reducible first | exact HB.out | apply below_alloc | apply pw_below_drewN | apply below_drew1 | refine below_set ?_ GE147.out | refine below_set ?_ GE154.out) | exact HB.out)⟩
     ·rw [if_neg c28] at H
      have c28b0 : decide (t158 < 0) = false := decide_eq_false c28
      clear c28
      by_cases c34 : t158 = t156
      ·rw [if_pos c34] at H
       have c34b0 : (t158 == t156) = true := beq_iff_eq.mpr c34
       have c34b1 : (t158 != t156) = false := bne_eq_false_iff_eq.mpr c34
       clear c34
       replace H := Option.bind_eq_some_iff.mp H
       obtain ⟨⟨t159, t160, t161, t164⟩, A350, H⟩ := H
       replace H : ((laws_eqPainting.f kj4 t159 t160 t161 t141 t142 t143).bind fun t166 => (if t166 = true then (laws_FnExactParsePainting.j1 kj4 t156 (t164 != t146) t148 t149 t157) else (laws_FnExactParsePainting.j1 kj4 t156 true t148 t149 t157))) = some r := H
       have A35 := Aside0.mk A350
       clear A350
       have HC36 := Aside0.mk H
       clear H
       have hnb37 := NB154_147.out
       have hnc37 := NB147_154.out
       have hcz38_0 : wc.cell? ⟨gb154, 0, none⟩ = some (.int .i64 t148) := (blk_cell BK154.out 0).trans rfl
       have hcz38_1 : wc.cell? ⟨gb154, 1, none⟩ = some (.int .i64 t149) := (blk_cell BK154.out 1).trans rfl
       have hcz38_2 : wc.cell? ⟨gb154, 2, none⟩ = some (.slice Ao14 t150.length co14) := (blk_cell BK154.out 2).trans rfl
       have hfz38_0 := blk_frozen BK154.out 0
       have hfz38_1 := blk_frozen BK154.out 1
       have hfz38_2 := blk_frozen BK154.out 2
       go_upto_region 16 with (first | ((with_reducible refine gate_callee (f := 8) rfl ?_); refine goesL_ (some 35) rfl rfl Tryd.func8 (by kernel_rfl) rfl #[.agg #[.int .i64 t148, .int .i64 t149, .slice Ao14 t150.length co14], .int .i64 1] rfl (by (try simp only [List.map_toArray, List.map_cons, List.map_nil]); first | done | rfl | (simp only [List.length_drop, List.length_take]; rfl)) ?_; (with_reducible refine (laws_markPainting.calls kj4 t148 t149 (fun k_ => some k_ = (.slice Ao14 t150.length co14 : Value).ownBlock) (.slice Ao14 t150.length co14) t150 1 t156 t157 w _ ?side1 ?side2 A26.out).mono ?_); (case side1 => repeat (first | (with_reducible first | exact HB.out | apply below_alloc | apply pw_below_drewN | apply below_drew1 | refine below_set ?_ GE147.out | refine below_set ?_ GE154.out) | exact HB.out)); (case side2 => exact Kd.R_tight rfl HO_155002.out); rintro e w39 ⟨rfl, hy0, hb, hkp⟩; refine ⟨_, rfl, ?_⟩; have n0_ := Aside0.mk (Kd.R_mono (ok' := fun k_ => some k_ ≠ (.slice Ao14 t150.length co14 : Value).ownBlock) (Kd.R_keptB (HO_148002.out) hkp (fun k_ hk_ hs_ => (hk_) hs_)) (fun k_ hk_ => hk_.1)); have n1_ := Aside0.mk (Kd.R_reok rfl hy0 (fun k_ e_ => HO_155002.out.1 k_ e_)); have n2_ := Aside0.mk (blk_kept (by (with_reducible repeat (first | refine blk_drewN ?_ _ | refine blk_drew ?_ | refine blk_alloc ?_ _)); exact BK147.out) hkp (fun hs_ => (fun e_ => (Kd.R_ne HO_155002.out BK147.out (by decide)) e_) hs_)); have n3_ := Aside0.mk (blk_kept (by (with_reducible repeat (first | refine blk_drewN ?_ _ | refine blk_drew ?_ | refine blk_alloc ?_ _)); exact BK154.out) hkp (fun hs_ => (fun e_ => (Kd.R_ne HO_155002.out BK154.out (by decide)) e_) hs_)); have n4_ := Aside0.mk (hb); clear HO_148002; clear HO_155002; clear BK147; clear BK154; clear HB; have HO_148002 := n0_; have HO_155002 := n1_; have BK147 := n2_; have BK154 := n3_; have HB := n4_; clear n0_ n1_ n2_ n3_ n4_; (try clear hb); (try clear hkp); (try clear hy0); have hcz40_0 : w39.cell? ⟨gb154, 0, none⟩ = some (.int .i64 t148) := (blk_cell BK154.out 0).trans rfl; have hcz40_1 : w39.cell? ⟨gb154, 1, none⟩ = some (.int .i64 t149) := (blk_cell BK154.out 1).trans rfl; have hcz40_2 : w39.cell? ⟨gb154, 2, none⟩ = some (.slice Ao14 t150.length co14) := (blk_cell BK154.out 2).trans rfl; have hfz40_0 := blk_frozen BK154.out 0; have hfz40_1 := blk_frozen BK154.out 1; have hfz40_2 := blk_frozen BK154.out 2) | ((with_reducible refine gate_callee (f := 9) rfl ?_); refine goesL_ (some 38) rfl rfl Tryd.func9 (by kernel_rfl) rfl #[.agg #[.int .i64 t148, .int .i64 t149, .slice Ao14 t157.length co14], .int .i64 1] rfl (by (try simp only [List.map_toArray, List.map_cons, List.map_nil]); first | done | (rw [show t157.length = t150.length from (Kd.R_reads' HO_155002.out).1.symm] <;> rfl) | rfl | (simp only [List.length_drop, List.length_take]; rfl)) ?_; (with_reducible refine (laws_heldPainting.calls kj4 t148 t149 _ _ t157 1 t158 _ ?side1 ?side2 A27.out).mono ?_); (case side1 => repeat (first | exact (Kd.R_reads' HO_155002.out).2.2 | (with_reducible refine Kd.C_alloc ?_ _) | (with_reducible refine Kd.C_drewN ?_ _) | (with_reducible refine Kd.C_drew ?_))); (case side2 => rw [show t157.length = t150.length from (Kd.R_reads' HO_155002.out).1.symm]; exact (Kd.R_reads' HO_155002.out).2.1); rintro e w41 ⟨rfl, hb⟩; refine ⟨_, rfl, ?_⟩; have n0_ := Aside0.mk (Kd.R_below (by (with_reducible repeat (first | apply Kd.R_alloc | apply Kd.R_drewN | apply Kd.R_drew)); exact HO_148002.out) hb); have n1_ := Aside0.mk (Kd.R_below (by (with_reducible repeat (first | apply Kd.R_alloc | apply Kd.R_drewN | apply Kd.R_drew)); exact HO_155002.out) hb); have n2_ := Aside0.mk (blk_below (g := gb147) (o := .cells #[.int .i64 t141, .int .i64 t142, .slice Ao9 t143.length co9] 24 (0, 0)) (by (with_reducible repeat (first | refine blk_drewN ?_ _ | refine blk_drew ?_ | refine blk_alloc ?_ _)); exact BK147.out) hb); have n3_ := Aside0.mk (blk_below (g := gb154) (o := .cells #[.int .i64 t148, .int .i64 t149, .slice Ao14 t150.length co14] 24 (0, 0)) (by (with_reducible repeat (first | refine blk_drewN ?_ _ | refine blk_drew ?_ | refine blk_alloc ?_ _)); exact BK154.out) hb); have n4_ := Aside0.mk (below_step (by repeat (first | (with_reducible first | exact HB.out | apply below_alloc | apply pw_below_drewN | apply below_drew1 | refine below_set ?_ GE147.out | refine below_set ?_ GE154.out) | exact HB.out)) hb); clear HO_148002; clear HO_155002; clear BK147; clear BK154; clear HB; have HO_148002 := n0_; have HO_155002 := n1_; have BK147 := n2_; have BK154 := n3_; have HB := n4_; clear n0_ n1_ n2_ n3_ n4_; (try clear hb); (try clear hb2); (try clear hk); (try clear hi)) | ((with_reducible refine gate_callee (f := 6) rfl ?_); refine goesL_ (some 46) rfl rfl Tryd.func6 (by kernel_rfl) rfl #[.string a0] rfl (by (try simp only [List.map_toArray, List.map_cons, List.map_nil]); first | done | rfl | (simp only [List.length_drop, List.length_take]; rfl)) ?_; (with_reducible refine (impl_ParsePainting.calls kj4 a0 t159 t160 t161 t164 _ ?sideG A35.out).mono ?_); (case sideG => first | exact HG.out | exact Tab.below HG.out (by repeat (first | (with_reducible first | exact HB.out | apply below_alloc | apply pw_below_drewN | apply below_drew1 | refine below_set ?_ GE147.out | refine below_set ?_ GE154.out) | exact HB.out))); rintro e w42 ⟨v162, rfl, ho0, hb⟩; refine ⟨_, rfl, ?_⟩; have n0_ := Aside0.mk (Kd.R_elder' (by (with_reducible repeat (first | apply Kd.R_alloc | apply Kd.R_drewN | apply Kd.R_drew)); exact HO_148002.out) (Kd.R_base ho0) hb); have n1_ := Aside0.mk (Kd.R_elder' (by (with_reducible repeat (first | apply Kd.R_alloc | apply Kd.R_drewN | apply Kd.R_drew)); exact HO_155002.out) (Kd.R_base ho0) hb); have n2_ := Aside0.mk (Kd.R_lower (Kd.R_new' (Kd.R_new' ho0 (Kd.R_lt (by (with_reducible repeat (first | apply Kd.R_alloc | apply Kd.R_drewN | apply Kd.R_drew)); exact HO_148002.out))) (Kd.R_lt (by (with_reducible repeat (first | apply Kd.R_alloc | apply Kd.R_drewN | apply Kd.R_drew)); exact HO_155002.out))) (below_size (by repeat (first | (with_reducible first | exact HB.out | apply below_alloc | apply pw_below_drewN | apply below_drew1 | refine below_set ?_ GE147.out | refine below_set ?_ GE154.out) | exact HB.out)))); have n3_ := Aside0.mk (blk_below (g := gb147) (o := .cells #[.int .i64 t141, .int .i64 t142, .slice Ao9 t143.length co9] 24 (0, 0)) (by (with_reducible repeat (first | refine blk_drewN ?_ _ | refine blk_drew ?_ | refine blk_alloc ?_ _)); exact BK147.out) hb); have n4_ := Aside0.mk (blk_below (g := gb154) (o := .cells #[.int .i64 t148, .int .i64 t149, .slice Ao14 t150.length co14] 24 (0, 0)) (by (with_reducible repeat (first | refine blk_drewN ?_ _ | refine blk_drew ?_ | refine blk_alloc ?_ _)); exact BK154.out) hb); have n5_ := Aside0.mk (below_step (by repeat (first | (with_reducible first | exact HB.out | apply below_alloc | apply pw_below_drewN | apply below_drew1 | refine below_set ?_ GE147.out | refine below_set ?_ GE154.out) | exact HB.out)) hb); clear HO_148002; clear HO_155002; clear BK147; clear BK154; clear HB; have HO_148002 := n0_; have HO_155002 := n1_; have HO163 := n2_; have BK147 := n3_; have BK154 := n4_; have HB := n5_; clear n0_ n1_ n2_ n3_ n4_ n5_; (try clear hb); (try clear hb2); (try clear hk); (try clear hi); (try clear ho0)) | ((with_reducible refine gate_dst (N := 9) rfl ?_); refine box_event ?hg (N := 9) ?hd (cs := #[.int .i64 0, .int .i64 0, .slice none 0 0]) (t := 24) ?hr ?_; (case hd => rfl); (case hg => rfl); (case hr => first | (go_simp; done) | (go_simp; rfl)); intro gb165 hg w43 hbox hb; have n0_ := Aside0.mk (Kd.R_below (by (with_reducible repeat (first | apply Kd.R_alloc | apply Kd.R_drewN | apply Kd.R_drew)); exact HO_148002.out) hb); have n1_ := Aside0.mk (Kd.R_below (by (with_reducible repeat (first | apply Kd.R_alloc | apply Kd.R_drewN | apply Kd.R_drew)); exact HO_155002.out) hb); have n2_ := Aside0.mk (Kd.R_below (by (with_reducible repeat (first | apply Kd.R_alloc | apply Kd.R_drewN | apply Kd.R_drew)); exact HO163.out) hb); have n3_ := Aside0.mk (blk_below (g := gb147) (o := .cells #[.int .i64 t141, .int .i64 t142, .slice Ao9 t143.length co9] 24 (0, 0)) (by (with_reducible repeat (first | refine blk_drewN ?_ _ | refine blk_drew ?_ | refine blk_alloc ?_ _)); exact BK147.out) hb); have n4_ := Aside0.mk (blk_below (g := gb154) (o := .cells #[.int .i64 t148, .int .i64 t149, .slice Ao14 t150.length co14] 24 (0, 0)) (by (with_reducible repeat (first | refine blk_drewN ?_ _ | refine blk_drew ?_ | refine blk_alloc ?_ _)); exact BK154.out) hb); have n5_ := Aside0.mk (below_step (by repeat (first | (with_reducible first | exact HB.out | apply below_alloc | apply pw_below_drewN | apply below_drew1 | refine below_set ?_ GE147.out | refine below_set ?_ GE154.out) | exact HB.out)) hb); have n6_ := Aside0.mk (hbox); have n7_ := Aside0.mk ((by rw [hg]; exact (below_size (by repeat (first | (with_reducible first | exact HB.out | apply below_alloc | apply pw_below_drewN | apply below_drew1 | refine below_set ?_ GE147.out | refine below_set ?_ GE154.out) | exact HB.out))) : w.heap.size ≤ gb165)); have n8_ := n7_; have n9_ := Aside0.mk ((by rw [hg]; exact Nat.ne_of_lt (blk_lt (g := gb147) (o := .cells #[.int .i64 t141, .int .i64 t142, .slice Ao9 t143.length co9] 24 (0, 0)) (by (with_reducible repeat (first | refine blk_drewN ?_ _ | refine blk_drew ?_ | refine blk_alloc ?_ _)); exact BK147.out)) : gb147 ≠ gb165)); have n10_ := Aside0.mk n9_.out.symm; have n11_ := Aside0.mk ((by rw [hg]; exact Nat.ne_of_lt (blk_lt (g := gb154) (o := .cells #[.int .i64 t148, .int .i64 t149, .slice Ao14 t150.length co14] 24 (0, 0)) (by (with_reducible repeat (first | refine blk_drewN ?_ _ | refine blk_drew ?_ | refine blk_alloc ?_ _)); exact BK154.out)) : gb154 ≠ gb165)); have n12_ := Aside0.mk n11_.out.symm; clear HO_148002; clear HO_155002; clear HO163; clear BK147; clear BK154; clear HB; have HO_148002 := n0_; have HO_155002 := n1_; have HO163 := n2_; have BK147 := n3_; have BK154 := n4_; have HB := n5_; have BK165 := n6_; have GW165 := n7_; have GE165 := n8_; have NB147_165 := n9_; have NB165_147 := n10_; have NB154_165 := n11_; have NB165_154 := n12_; clear n0_ n1_ n2_ n3_ n4_ n5_ n6_ n7_ n8_ n9_ n10_ n11_ n12_; clear hb hbox hg; have hnb44 := NB165_147.out; have hnc44 := NB147_165.out; have hnb45 := NB165_154.out; have hnc45 := NB154_165.out; have hcz46_0 : w43.cell? ⟨gb165, 0, none⟩ = some (.int .i64 0) := (blk_cell BK165.out 0).trans rfl; have hcz46_1 : w43.cell? ⟨gb165, 1, none⟩ = some (.int .i64 0) := (blk_cell BK165.out 1).trans rfl; have hcz46_2 : w43.cell? ⟨gb165, 2, none⟩ = some (.slice none 0 0) := (blk_cell BK165.out 2).trans rfl; have hfz46_0 := blk_frozen BK165.out 0; have hfz46_1 := blk_frozen BK165.out 1; have hfz46_2 := blk_frozen BK165.out 2; obtain ⟨Ao47, co47, eo47⟩ := Kd.R_slice HO163.out; subst eo47))
       (try simp only [Act.put, List.setIfInBounds_toArray, List.set_cons_zero, List.set_cons_succ])
       go_cut [57] (fun v57 wc => ∃ (kq : Nat) (x57_35 : Bool), v57 = .bool x57_35 ∧ Aside0 (laws_FnExactParsePainting.j1 kq t156 x57_35 t148 t149 t157 = some r) ∧ Aside0 (kq ≤ kj4) ∧ Aside0 (Kd.R (Kd.int .i64) 3 wc w.heap.size (fun k_ => some k_ ≠ ((.slice Ao14 t150.length co14) : Value).ownBlock ∧ some k_ ≠ ((.slice Ao47 t161.length co47) : Value).ownBlock) (.slice Ao9 t143.length co9) t143) ∧ Aside0 (Kd.R (Kd.int .i64) 3 wc w.heap.size (fun k_ => some k_ ≠ ((.slice Ao9 t143.length co9) : Value).ownBlock ∧ some k_ ≠ ((.slice Ao47 t161.length co47) : Value).ownBlock) (.slice Ao14 t150.length co14) t157) ∧ Aside0 (Kd.R (Kd.int .i64) 3 wc w.heap.size (fun k_ => some k_ ≠ ((.slice Ao9 t143.length co9) : Value).ownBlock ∧ some k_ ≠ ((.slice Ao14 t150.length co14) : Value).ownBlock) (.slice Ao47 t161.length co47) t161) ∧ Aside0 (wc.heap[gb147]? = some (.cells #[.int .i64 t141, .int .i64 t142, (.slice Ao9 t143.length co9)] 24 (0, 0))) ∧ Aside0 (wc.heap[gb154]? = some (.cells #[.int .i64 t148, .int .i64 t149, (.slice Ao14 t150.length co14)] 24 (0, 0))) ∧ Aside0 (wc.heap[gb165]? = some (.cells #[.int .i64 t159, .int .i64 t160, (.slice Ao47 t161.length co47)] 24 (0, 0))) ∧ Aside0 (Below w.heap.size w wc))
       case first =>
        have H := HC36.out
        clear HC36
        replace H := Option.bind_eq_some_iff.mp H
        obtain ⟨t166, A480, H⟩ := H
        replace H : (if t166 = true then (laws_FnExactParsePainting.j1 kj4 t156 (t164 != t146) t148 t149 t157) else (laws_FnExactParsePainting.j1 kj4 t156 true t148 t149 t157)) = some r := H
        have A48 := Aside0.mk A480
        clear A480
        by_cases c49 : t166 = true
        ·subst c49
         have H1 : (laws_FnExactParsePainting.j1 kj4 t156 (t164 != t146) t148 t149 t157) = some r := by rw [if_pos rfl] at H; exact H
         clear H
         have H := H1
         clear H1
         have H' := Aside0.mk H
         clear H
         have hnb50 := NB165_147.out
         have hnc50 := NB147_165.out
         have hnb51 := NB165_154.out
         have hnc51 := NB154_165.out
         have hcz52_0 : w43.cell? ⟨gb165, 0, none⟩ = some (.int .i64 0) := (blk_cell BK165.out 0).trans rfl
         have hcz52_1 : w43.cell? ⟨gb165, 1, none⟩ = some (.int .i64 0) := (blk_cell BK165.out 1).trans rfl
         have hcz52_2 : w43.cell? ⟨gb165, 2, none⟩ = some (.slice none 0 0) := (blk_cell BK165.out 2).trans rfl
         have hfz52_0 := blk_frozen BK165.out 0
         have hfz52_1 := blk_frozen BK165.out 1
         have hfz52_2 := blk_frozen BK165.out 2
         have hnb53 := NB147_154.out
         have hnc53 := NB154_147.out
         have hcz54_0 : w43.cell? ⟨gb147, 0, none⟩ = some (.int .i64 t141) := (blk_cell BK147.out 0).trans rfl
         have hcz54_1 : w43.cell? ⟨gb147, 1, none⟩ = some (.int .i64 t142) := (blk_cell BK147.out 1).trans rfl
         have hcz54_2 : w43.cell? ⟨gb147, 2, none⟩ = some (.slice Ao9 t143.length co9) := (blk_cell BK147.out 2).trans rfl
         have hfz54_0 := blk_frozen BK147.out 0
         have hfz54_1 := blk_frozen BK147.out 1
         have hfz54_2 := blk_frozen BK147.out 2
         go_wp2_with (first | ((with_reducible refine gate_callee (f := 7) rfl ?_); refine goesL_ (some 51) rfl rfl Tryd.func7 (by kernel_rfl) rfl #[.agg #[.int .i64 t159, .int .i64 t160, .slice Ao47 t161.length co47], .agg #[.int .i64 t141, .int .i64 t142, .slice Ao9 t143.length co9]] rfl (by (try simp only [List.map_toArray, List.map_cons, List.map_nil]); first | done | rfl | (simp only [List.length_drop, List.length_take]; rfl)) ?_; (with_reducible refine (laws_eqPainting.calls kj4 t159 t160 _ _ t161 t141 t142 _ _ t143 true _ ?side1 ?side2 ?side3 ?side4 A48.out).mono ?_); (case side1 => refine (Kd.R_reads' (e := 3) (base := w.heap.size) (ok := fun k_ => ((True ∧ some k_ ≠ (.slice Ao9 t143.length co9 : Value).ownBlock) ∧ some k_ ≠ (.slice Ao14 t150.length co14 : Value).ownBlock)) (n := t161.length) (c := co47) ?_).2.2; exact (by (with_reducible repeat (first | apply Kd.R_alloc | apply Kd.R_drewN | apply Kd.R_drew)); exact (Kd.R_mono (Kd.R_far (p := ⟨gb165, 2, none⟩) (Kd.R_far (p := ⟨gb165, 1, none⟩) (Kd.R_far (p := ⟨gb165, 0, none⟩) (Kd.R_types HO163.out BK165.out (by decide)) (fun _ hk => hk.2) (.int .i64 t159)) (fun _ hk => hk.2) (.int .i64 t160)) (fun _ hk => hk.2) (.slice Ao47 t161.length co47)) (fun _ h_ => h_.1)))); (case side2 => exact (Kd.R_reads' HO163.out).2.1); (case side3 => refine (Kd.R_reads' (e := 3) (base := w.heap.size) (ok := fun k_ => (some k_ ≠ (.slice Ao14 t150.length co14 : Value).ownBlock ∧ some k_ ≠ (.slice Ao47 t161.length co47 : Value).ownBlock)) (n := t143.length) (c := co9) ?_).2.2; exact (by (with_reducible repeat (first | apply Kd.R_alloc | apply Kd.R_drewN | apply Kd.R_drew)); exact (Kd.R_mono (Kd.R_far (p := ⟨gb165, 2, none⟩) (Kd.R_far (p := ⟨gb165, 1, none⟩) (Kd.R_far (p := ⟨gb165, 0, none⟩) (Kd.R_types HO_148002.out BK165.out (by decide)) (fun _ hk => hk.2) (.int .i64 t159)) (fun _ hk => hk.2) (.int .i64 t160)) (fun _ hk => hk.2) (.slice Ao47 t161.length co47)) (fun _ h_ => h_.1)))); (case side4 => exact (Kd.R_reads' HO_148002.out).2.1); rintro e w55 ⟨rfl, hb⟩; refine ⟨_, rfl, ?_⟩; have n0_ := Aside0.mk (Kd.R_below (by (with_reducible repeat (first | apply Kd.R_alloc | apply Kd.R_drewN | apply Kd.R_drew)); exact (Kd.R_mono (Kd.R_far (p := ⟨gb165, 2, none⟩) (Kd.R_far (p := ⟨gb165, 1, none⟩) (Kd.R_far (p := ⟨gb165, 0, none⟩) (Kd.R_types HO_148002.out BK165.out (by decide)) (fun _ hk => hk.2) (.int .i64 t159)) (fun _ hk => hk.2) (.int .i64 t160)) (fun _ hk => hk.2) (.slice Ao47 t161.length co47)) (fun _ h_ => h_.1))) hb); have n1_ := Aside0.mk (Kd.R_below (by (with_reducible repeat (first | apply Kd.R_alloc | apply Kd.R_drewN | apply Kd.R_drew)); exact (Kd.R_mono (Kd.R_far (p := ⟨gb165, 2, none⟩) (Kd.R_far (p := ⟨gb165, 1, none⟩) (Kd.R_far (p := ⟨gb165, 0, none⟩) (Kd.R_types HO_155002.out BK165.out (by decide)) (fun _ hk => hk.2) (.int .i64 t159)) (fun _ hk => hk.2) (.int .i64 t160)) (fun _ hk => hk.2) (.slice Ao47 t161.length co47)) (fun _ h_ => h_.1))) hb); have n2_ := Aside0.mk (Kd.R_below (by (with_reducible repeat (first | apply Kd.R_alloc | apply Kd.R_drewN | apply Kd.R_drew)); exact (Kd.R_mono (Kd.R_far (p := ⟨gb165, 2, none⟩) (Kd.R_far (p := ⟨gb165, 1, none⟩) (Kd.R_far (p := ⟨gb165, 0, none⟩) (Kd.R_types HO163.out BK165.out (by decide)) (fun _ hk => hk.2) (.int .i64 t159)) (fun _ hk => hk.2) (.int .i64 t160)) (fun _ hk => hk.2) (.slice Ao47 t161.length co47)) (fun _ h_ => h_.1))) hb); have n3_ := Aside0.mk (blk_below (g := gb147) (o := .cells #[.int .i64 t141, .int .i64 t142, .slice Ao9 t143.length co9] 24 (0, 0)) (by (with_reducible repeat (first | refine blk_drewN ?_ _ | refine blk_drew ?_ | refine blk_alloc ?_ _)); refine blk_far ?_ NB147_165.out _; (with_reducible repeat (first | refine blk_drewN ?_ _ | refine blk_drew ?_ | refine blk_alloc ?_ _)); refine blk_far ?_ NB147_165.out _; (with_reducible repeat (first | refine blk_drewN ?_ _ | refine blk_drew ?_ | refine blk_alloc ?_ _)); refine blk_far ?_ NB147_165.out _; (with_reducible repeat (first | refine blk_drewN ?_ _ | refine blk_drew ?_ | refine blk_alloc ?_ _)); exact BK147.out) hb); have n4_ := Aside0.mk (blk_below (g := gb154) (o := .cells #[.int .i64 t148, .int .i64 t149, .slice Ao14 t150.length co14] 24 (0, 0)) (by (with_reducible repeat (first | refine blk_drewN ?_ _ | refine blk_drew ?_ | refine blk_alloc ?_ _)); refine blk_far ?_ NB154_165.out _; (with_reducible repeat (first | refine blk_drewN ?_ _ | refine blk_drew ?_ | refine blk_alloc ?_ _)); refine blk_far ?_ NB154_165.out _; (with_reducible repeat (first | refine blk_drewN ?_ _ | refine blk_drew ?_ | refine blk_alloc ?_ _)); refine blk_far ?_ NB154_165.out _; (with_reducible repeat (first | refine blk_drewN ?_ _ | refine blk_drew ?_ | refine blk_alloc ?_ _)); exact BK154.out) hb); have n5_ := Aside0.mk (blk_below (g := gb165) (o := .cells #[.int .i64 t159, .int .i64 t160, .slice Ao47 t161.length co47] 24 (0, 0)) (by (with_reducible repeat (first | refine blk_drewN ?_ _ | refine blk_drew ?_ | refine blk_alloc ?_ _)); refine blk_put (cs := #[.int .i64 t159, .int .i64 t160, .slice none 0 0]) ?_ 2 _ rfl; (with_reducible repeat (first | refine blk_drewN ?_ _ | refine blk_drew ?_ | refine blk_alloc ?_ _)); refine blk_put (cs := #[.int .i64 t159, .int .i64 0, .slice none 0 0]) ?_ 1 _ rfl; (with_reducible repeat (first | refine blk_drewN ?_ _ | refine blk_drew ?_ | refine blk_alloc ?_ _)); refine blk_put (cs := #[.int .i64 0, .int .i64 0, .slice none 0 0]) ?_ 0 _ rfl; (with_reducible repeat (first | refine blk_drewN ?_ _ | refine blk_drew ?_ | refine blk_alloc ?_ _)); exact BK165.out) hb); have n6_ := Aside0.mk (below_step (by repeat (first | (with_reducible first | exact HB.out | apply below_alloc | apply pw_below_drewN | apply below_drew1 | refine below_set ?_ GE147.out | refine below_set ?_ GE154.out | refine below_set ?_ GE165.out) | exact HB.out)) hb); clear HO_148002; clear HO_155002; clear HO163; clear BK147; clear BK154; clear BK165; clear HB; have HO_148002 := n0_; have HO_155002 := n1_; have HO163 := n2_; have BK147 := n3_; have BK154 := n4_; have BK165 := n5_; have HB := n6_; clear n0_ n1_ n2_ n3_ n4_ n5_ n6_; (try clear hb); (try clear hb2); (try clear hk); (try clear hi)))
         go_meet
         case rel => exact ⟨_, ((t164 != t146)), (by first | rfl | (simp; done) | (simp [*]; done)), H', ⟨by have := HJ4.out; first | omega | exact Nat.le_refl _⟩, ⟨by (with_reducible repeat (first | apply Kd.R_alloc | apply Kd.R_drewN | apply Kd.R_drew)); exact HO_148002.out⟩, ⟨by (with_reducible repeat (first | apply Kd.R_alloc | apply Kd.R_drewN | apply Kd.R_drew)); exact HO_155002.out⟩, ⟨by (with_reducible repeat (first | apply Kd.R_alloc | apply Kd.R_drewN | apply Kd.R_drew)); exact Kd.R_mono HO163.out (fun _ hk => ⟨hk.1.2, hk.2⟩)⟩, ⟨by (with_reducible repeat (first | refine blk_drewN ?_ _ | refine blk_drew ?_ | refine blk_alloc ?_ _)); exact BK147.out⟩, ⟨by (with_reducible repeat (first | refine blk_drewN ?_ _ | refine blk_drew ?_ | refine blk_alloc ?_ _)); exact BK154.out⟩, ⟨by (with_reducible repeat (first | refine blk_drewN ?_ _ | refine blk_drew ?_ | refine blk_alloc ?_ _)); exact BK165.out⟩, ⟨by repeat (first | (with_reducible first | exact HB.out | apply below_alloc | apply pw_below_drewN | apply below_drew1 | refine below_set ?_ GE147.out | refine below_set ?_ GE154.out | refine below_set ?_ GE165.out) | exact HB.out)⟩⟩
        ·replace c49 := Bool.eq_false_iff.mpr c49
         subst c49
         have H1 : (laws_FnExactParsePainting.j1 kj4 t156 true t148 t149 t157) = some r := by rw [if_neg (show ¬ (false = true) by decide)] at H; exact H
         clear H
         have H := H1
         clear H1
         have H' := Aside0.mk H
         clear H
         have hnb56 := NB165_147.out
         have hnc56 := NB147_165.out
         have hnb57 := NB165_154.out
         have hnc57 := NB154_165.out
         have hcz58_0 : w43.cell? ⟨gb165, 0, none⟩ = some (.int .i64 0) := (blk_cell BK165.out 0).trans rfl
         have hcz58_1 : w43.cell? ⟨gb165, 1, none⟩ = some (.int .i64 0) := (blk_cell BK165.out 1).trans rfl
         have hcz58_2 : w43.cell? ⟨gb165, 2, none⟩ = some (.slice none 0 0) := (blk_cell BK165.out 2).trans rfl
         have hfz58_0 := blk_frozen BK165.out 0
         have hfz58_1 := blk_frozen BK165.out 1
         have hfz58_2 := blk_frozen BK165.out 2
         have hnb59 := NB147_154.out
         have hnc59 := NB154_147.out
         have hcz60_0 : w43.cell? ⟨gb147, 0, none⟩ = some (.int .i64 t141) := (blk_cell BK147.out 0).trans rfl
         have hcz60_1 : w43.cell? ⟨gb147, 1, none⟩ = some (.int .i64 t142) := (blk_cell BK147.out 1).trans rfl
         have hcz60_2 : w43.cell? ⟨gb147, 2, none⟩ = some (.slice Ao9 t143.length co9) := (blk_cell BK147.out 2).trans rfl
         have hfz60_0 := blk_frozen BK147.out 0
         have hfz60_1 := blk_frozen BK147.out 1
         have hfz60_2 := blk_frozen BK147.out 2
         go_wp2_with (first | ((with_reducible refine gate_callee (f := 7) rfl ?_); refine goesL_ (some 51) rfl rfl Tryd.func7 (by kernel_rfl) rfl #[.agg #[.int .i64 t159, .int .i64 t160, .slice Ao47 t161.length co47], .agg #[.int .i64 t141, .int .i64 t142, .slice Ao9 t143.length co9]] rfl (by (try simp only [List.map_toArray, List.map_cons, List.map_nil]); first | done | rfl | (simp only [List.length_drop, List.length_take]; rfl)) ?_; (with_reducible refine (laws_eqPainting.calls kj4 t159 t160 _ _ t161 t141 t142 _ _ t143 false _ ?side1 ?side2 ?side3 ?side4 A48.out).mono ?_); (case side1 => refine (Kd.R_reads' (e := 3) (base := w.heap.size) (ok := fun k_ => ((True ∧ some k_ ≠ (.slice Ao9 t143.length co9 : Value).ownBlock) ∧ some k_ ≠ (.slice Ao14 t150.length co14 : Value).ownBlock)) (n := t161.length) (c := co47) ?_).2.2; exact (by (with_reducible repeat (first | apply Kd.R_alloc | apply Kd.R_drewN | apply Kd.R_drew)); exact (Kd.R_mono (Kd.R_far (p := ⟨gb165, 2, none⟩) (Kd.R_far (p := ⟨gb165, 1, none⟩) (Kd.R_far (p := ⟨gb165, 0, none⟩) (Kd.R_types HO163.out BK165.out (by decide)) (fun _ hk => hk.2) (.int .i64 t159)) (fun _ hk => hk.2) (.int .i64 t160)) (fun _ hk => hk.2) (.slice Ao47 t161.length co47)) (fun _ h_ => h_.1)))); (case side2 => exact (Kd.R_reads' HO163.out).2.1); (case side3 => refine (Kd.R_reads' (e := 3) (base := w.heap.size) (ok := fun k_ => (some k_ ≠ (.slice Ao14 t150.length co14 : Value).ownBlock ∧ some k_ ≠ (.slice Ao47 t161.length co47 : Value).ownBlock)) (n := t143.length) (c := co9) ?_).2.2; exact (by (with_reducible repeat (first | apply Kd.R_alloc | apply Kd.R_drewN | apply Kd.R_drew)); exact (Kd.R_mono (Kd.R_far (p := ⟨gb165, 2, none⟩) (Kd.R_far (p := ⟨gb165, 1, none⟩) (Kd.R_far (p := ⟨gb165, 0, none⟩) (Kd.R_types HO_148002.out BK165.out (by decide)) (fun _ hk => hk.2) (.int .i64 t159)) (fun _ hk => hk.2) (.int .i64 t160)) (fun _ hk => hk.2) (.slice Ao47 t161.length co47)) (fun _ h_ => h_.1)))); (case side4 => exact (Kd.R_reads' HO_148002.out).2.1); rintro e w61 ⟨rfl, hb⟩; refine ⟨_, rfl, ?_⟩; have n0_ := Aside0.mk (Kd.R_below (by (with_reducible repeat (first | apply Kd.R_alloc | apply Kd.R_drewN | apply Kd.R_drew)); exact (Kd.R_mono (Kd.R_far (p := ⟨gb165, 2, none⟩) (Kd.R_far (p := ⟨gb165, 1, none⟩) (Kd.R_far (p := ⟨gb165, 0, none⟩) (Kd.R_types HO_148002.out BK165.out (by decide)) (fun _ hk => hk.2) (.int .i64 t159)) (fun _ hk => hk.2) (.int .i64 t160)) (fun _ hk => hk.2) (.slice Ao47 t161.length co47)) (fun _ h_ => h_.1))) hb); have n1_ := Aside0.mk (Kd.R_below (by (with_reducible repeat (first | apply Kd.R_alloc | apply Kd.R_drewN | apply Kd.R_drew)); exact (Kd.R_mono (Kd.R_far (p := ⟨gb165, 2, none⟩) (Kd.R_far (p := ⟨gb165, 1, none⟩) (Kd.R_far (p := ⟨gb165, 0, none⟩) (Kd.R_types HO_155002.out BK165.out (by decide)) (fun _ hk => hk.2) (.int .i64 t159)) (fun _ hk => hk.2) (.int .i64 t160)) (fun _ hk => hk.2) (.slice Ao47 t161.length co47)) (fun _ h_ => h_.1))) hb); have n2_ := Aside0.mk (Kd.R_below (by (with_reducible repeat (first | apply Kd.R_alloc | apply Kd.R_drewN | apply Kd.R_drew)); exact (Kd.R_mono (Kd.R_far (p := ⟨gb165, 2, none⟩) (Kd.R_far (p := ⟨gb165, 1, none⟩) (Kd.R_far (p := ⟨gb165, 0, none⟩) (Kd.R_types HO163.out BK165.out (by decide)) (fun _ hk => hk.2) (.int .i64 t159)) (fun _ hk => hk.2) (.int .i64 t160)) (fun _ hk => hk.2) (.slice Ao47 t161.length co47)) (fun _ h_ => h_.1))) hb); have n3_ := Aside0.mk (blk_below (g := gb147) (o := .cells #[.int .i64 t141, .int .i64 t142, .slice Ao9 t143.length co9] 24 (0, 0)) (by (with_reducible repeat (first | refine blk_drewN ?_ _ | refine blk_drew ?_ | refine blk_alloc ?_ _)); refine blk_far ?_ NB147_165.out _; (with_reducible repeat (first | refine blk_drewN ?_ _ | refine blk_drew ?_ | refine blk_alloc ?_ _)); refine blk_far ?_ NB147_165.out _; (with_reducible repeat (first | refine blk_drewN ?_ _ | refine blk_drew ?_ | refine blk_alloc ?_ _)); refine blk_far ?_ NB147_165.out _; (with_reducible repeat (first | refine blk_drewN ?_ _ | refine blk_drew ?_ | refine blk_alloc ?_ _)); exact BK147.out) hb); have n4_ := Aside0.mk (blk_below (g := gb154) (o := .cells #[.int .i64 t148, .int .i64 t149, .slice Ao14 t150.length co14] 24 (0, 0)) (by (with_reducible repeat (first | refine blk_drewN ?_ _ | refine blk_drew ?_ | refine blk_alloc ?_ _)); refine blk_far ?_ NB154_165.out _; (with_reducible repeat (first | refine blk_drewN ?_ _ | refine blk_drew ?_ | refine blk_alloc ?_ _)); refine blk_far ?_ NB154_165.out _; (with_reducible repeat (first | refine blk_drewN ?_ _ | refine blk_drew ?_ | refine blk_alloc ?_ _)); refine blk_far ?_ NB154_165.out _; (with_reducible repeat (first | refine blk_drewN ?_ _ | refine blk_drew ?_ | refine blk_alloc ?_ _)); exact BK154.out) hb); have n5_ := Aside0.mk (blk_below (g := gb165) (o := .cells #[.int .i64 t159, .int .i64 t160, .slice Ao47 t161.length co47] 24 (0, 0)) (by (with_reducible repeat (first | refine blk_drewN ?_ _ | refine blk_drew ?_ | refine blk_alloc ?_ _)); refine blk_put (cs := #[.int .i64 t159, .int .i64 t160, .slice none 0 0]) ?_ 2 _ rfl; (with_reducible repeat (first | refine blk_drewN ?_ _ | refine blk_drew ?_ | refine blk_alloc ?_ _)); refine blk_put (cs := #[.int .i64 t159, .int .i64 0, .slice none 0 0]) ?_ 1 _ rfl; (with_reducible repeat (first | refine blk_drewN ?_ _ | refine blk_drew ?_ | refine blk_alloc ?_ _)); refine blk_put (cs := #[.int .i64 0, .int .i64 0, .slice none 0 0]) ?_ 0 _ rfl; (with_reducible repeat (first | refine blk_drewN ?_ _ | refine blk_drew ?_ | refine blk_alloc ?_ _)); exact BK165.out) hb); have n6_ := Aside0.mk (below_step (by repeat (first | (with_reducible first | exact HB.out | apply below_alloc | apply pw_below_drewN | apply below_drew1 | refine below_set ?_ GE147.out | refine below_set ?_ GE154.out | refine below_set ?_ GE165.out) | exact HB.out)) hb); clear HO_148002; clear HO_155002; clear HO163; clear BK147; clear BK154; clear BK165; clear HB; have HO_148002 := n0_; have HO_155002 := n1_; have HO163 := n2_; have BK147 := n3_; have BK154 := n4_; have BK165 := n5_; have HB := n6_; clear n0_ n1_ n2_ n3_ n4_ n5_ n6_; (try clear hb); (try clear hb2); (try clear hk); (try clear hi)))
         go_meet
         case rel => exact ⟨_, (true), (by first | rfl | (simp; done) | (simp [*]; done)), H', ⟨by have := HJ4.out; first | omega | exact Nat.le_refl _⟩, ⟨by (with_reducible repeat (first | apply Kd.R_alloc | apply Kd.R_drewN | apply Kd.R_drew)); exact HO_148002.out⟩, ⟨by (with_reducible repeat (first | apply Kd.R_alloc | apply Kd.R_drewN | apply Kd.R_drew)); exact HO_155002.out⟩, ⟨by (with_reducible repeat (first | apply Kd.R_alloc | apply Kd.R_drewN | apply Kd.R_drew)); exact Kd.R_mono HO163.out (fun _ hk => ⟨hk.1.2, hk.2⟩)⟩, ⟨by (with_reducible repeat (first | refine blk_drewN ?_ _ | refine blk_drew ?_ | refine blk_alloc ?_ _)); exact BK147.out⟩, ⟨by (with_reducible repeat (first | refine blk_drewN ?_ _ | refine blk_drew ?_ | refine blk_alloc ?_ _)); exact BK154.out⟩, ⟨by (with_reducible repeat (first | refine blk_drewN ?_ _ | refine blk_drew ?_ | refine blk_alloc ?_ _)); exact BK165.out⟩, ⟨by repeat (first | (with_reducible first | exact HB.out | apply below_alloc | apply pw_below_drewN | apply below_drew1 | refine below_set ?_ GE147.out | refine below_set ?_ GE154.out | refine below_set ?_ GE165.out) | exact HB.out)⟩⟩
       case rest =>
        clear HC36
        try clear c1
        try clear c2
        try clear c2b0
        try clear c2b1
        try clear p2
        try clear c3
        try clear c4
        try clear c5
        try clear c6
        try clear c7
        try clear c8
        try clear c9
        try clear c12
        try clear c16
        try clear c17
        try clear c21
        try clear c25
        try clear c28
        try clear c28b0
        try clear c29
        try clear c34
        try clear c34b0
        try clear c34b1
        try clear c37
        try clear c44
        try clear c45
        try clear c49
        try clear c50
        try clear c51
        try clear c53
        try clear c56
        try clear c57
        try clear c59
        try clear hcz13_0
        try clear hcz13_1
        try clear hcz13_2
        try clear hcz18_0
        try clear hcz18_1
        try clear hcz18_2
        try clear hcz19_0
        try clear hcz19_1
        try clear hcz19_2
        try clear hcz22_0
        try clear hcz22_1
        try clear hcz22_2
        try clear hcz23_0
        try clear hcz23_1
        try clear hcz23_2
        try clear hcz30_0
        try clear hcz30_1
        try clear hcz30_2
        try clear hcz32_0
        try clear hcz32_1
        try clear hcz32_2
        try clear hcz38_0
        try clear hcz38_1
        try clear hcz38_2
        try clear hcz40_0
        try clear hcz40_1
        try clear hcz40_2
        try clear hcz46_0
        try clear hcz46_1
        try clear hcz46_2
        try clear hcz52_0
        try clear hcz52_1
        try clear hcz52_2
        try clear hcz54_0
        try clear hcz54_1
        try clear hcz54_2
        try clear hcz58_0
        try clear hcz58_1
        try clear hcz58_2
        try clear hcz60_0
        try clear hcz60_1
        try clear hcz60_2
        try clear hcz8_0
        try clear hcz8_1
        try clear hcz8_2
        try clear hfz13_0
        try clear hfz13_1
        try clear hfz13_2
        try clear hfz18_0
        try clear hfz18_1
        try clear hfz18_2
        try clear hfz19_0
        try clear hfz19_1
        try clear hfz19_2
        try clear hfz22_0
        try clear hfz22_1
        try clear hfz22_2
        try clear hfz23_0
        try clear hfz23_1
        try clear hfz23_2
        try clear hfz30_0
        try clear hfz30_1
        try clear hfz30_2
        try clear hfz32_0
        try clear hfz32_1
        try clear hfz32_2
        try clear hfz38_0
        try clear hfz38_1
        try clear hfz38_2
        try clear hfz40_0
        try clear hfz40_1
        try clear hfz40_2
        try clear hfz46_0
        try clear hfz46_1
        try clear hfz46_2
        try clear hfz52_0
        try clear hfz52_1
        try clear hfz52_2
        try clear hfz54_0
        try clear hfz54_1
        try clear hfz54_2
        try clear hfz58_0
        try clear hfz58_1
        try clear hfz58_2
        try clear hfz60_0
        try clear hfz60_1
        try clear hfz60_2
        try clear hfz8_0
        try clear hfz8_1
        try clear hfz8_2
        try clear p2
        obtain ⟨kq, x57_35, rfl, HA, HJ35, HO_148002, HO_155002, HO_166002, BK147, BK154, BK165, HB⟩ := hcut
        have hl155002_35 := (Kd.R_reads' HO_155002.out).1
        rw [hl155002_35] at HO_155002
        (try simp only [hl155002_35])
        (try simp only [hl155002_35] at BK147)
        (try simp only [hl155002_35] at BK154)
        (try simp only [hl155002_35] at BK165)
        (try simp only [hl155002_35] at HO_148002)
        (try simp only [hl155002_35] at HO_166002)
        cases kq with
        | zero => exact absurd HA.out (by simp [laws_FnExactParsePainting.j1])
        | succ kj35 =>
         have H := HA.out
         clear HA
         simp only [laws_FnExactParsePainting.j1] at H
         by_cases c62 : x57_35 = true
         ·subst c62
          have H1 : (some false) = some r := by rw [if_pos rfl] at H; exact H
          clear H
          have H := H1
          clear H1
          obtain rfl := Option.some.inj H
          go_wp2
          go_ret
          exact ⟨by first | rfl | (simp [errW_none, errW_some] <;> rfl) | (simp [*, errW_none, errW_some] <;> rfl), by repeat (first | (with_reducible first | exact HB.out | apply below_alloc | apply pw_below_drewN | apply below_drew1 | refine below_set ?_ GE147.out | refine below_set ?_ GE154.out | refine below_set ?_ GE165.out) | exact HB.out)⟩
         ·replace c62 := Bool.eq_false_iff.mpr c62
          subst c62
          have H1 : ((laws_heldPainting.f kj35 t148 t149 t157 1).bind fun t167 => (if t167 < 0 then (some false) else (if t167 = t156 then (some true) else (some false)))) = some r := by rw [if_neg (show ¬ (false = true) by decide)] at H; exact H
          clear H
          have H := H1
          clear H1
          replace H := Option.bind_eq_some_iff.mp H
          obtain ⟨t167, A630, H⟩ := H
          replace H : (if t167 < 0 then (some false) else (if t167 = t156 then (some true) else (some false))) = some r := H
          have A63 := Aside0.mk A630
          clear A630
          by_cases c64 : t167 < 0
          ·rw [if_pos c64] at H
           have c64b0 : decide (t167 < 0) = true := decide_eq_true c64
           clear c64
           obtain rfl := Option.some.inj H
           have hnb65 := NB154_147.out
           have hnc65 := NB147_154.out
           have hnb66 := NB154_165.out
           have hnc66 := NB165_154.out
           have hcz67_0 : wc.cell? ⟨gb154, 0, none⟩ = some (.int .i64 t148) := (blk_cell BK154.out 0).trans rfl
           have hcz67_1 : wc.cell? ⟨gb154, 1, none⟩ = some (.int .i64 t149) := (blk_cell BK154.out 1).trans rfl
           have hcz67_2 : wc.cell? ⟨gb154, 2, none⟩ = some (.slice Ao14 t157.length co14) := (blk_cell BK154.out 2).trans rfl
           have hfz67_0 := blk_frozen BK154.out 0
           have hfz67_1 := blk_frozen BK154.out 1
           have hfz67_2 := blk_frozen BK154.out 2
           go_wp2_with (first | ((with_reducible refine gate_callee (f := 9) rfl ?_); refine goesL_ (some 60) rfl rfl Tryd.func9 (by kernel_rfl) rfl #[.agg #[.int .i64 t148, .int .i64 t149, .slice Ao14 t157.length co14], .int .i64 1] rfl (by (try simp only [List.map_toArray, List.map_cons, List.map_nil]); first | done | rfl | (simp only [List.length_drop, List.length_take]; rfl)) ?_; (with_reducible refine (laws_heldPainting.calls kj35 t148 t149 _ _ t157 1 t167 _ ?side1 ?side2 A63.out).mono ?_); (case side1 => repeat (first | exact (Kd.R_reads' HO_155002.out).2.2 | (with_reducible refine Kd.C_alloc ?_ _) | (with_reducible refine Kd.C_drewN ?_ _) | (with_reducible refine Kd.C_drew ?_))); (case side2 => exact (Kd.R_reads' HO_155002.out).2.1); rintro e w68 ⟨rfl, hb⟩; refine ⟨_, rfl, ?_⟩; have n0_ := Aside0.mk (Kd.R_below (by (with_reducible repeat (first | apply Kd.R_alloc | apply Kd.R_drewN | apply Kd.R_drew)); exact HO_148002.out) hb); have n1_ := Aside0.mk (Kd.R_below (by (with_reducible repeat (first | apply Kd.R_alloc | apply Kd.R_drewN | apply Kd.R_drew)); exact HO_155002.out) hb); have n2_ := Aside0.mk (Kd.R_below (by (with_reducible repeat (first | apply Kd.R_alloc | apply Kd.R_drewN | apply Kd.R_drew)); exact HO_166002.out) hb); have n3_ := Aside0.mk (blk_below (g := gb147) (o := .cells #[.int .i64 t141, .int .i64 t142, .slice Ao9 t143.length co9] 24 (0, 0)) (by (with_reducible repeat (first | refine blk_drewN ?_ _ | refine blk_drew ?_ | refine blk_alloc ?_ _)); exact BK147.out) hb); have n4_ := Aside0.mk (blk_below (g := gb154) (o := .cells #[.int .i64 t148, .int .i64 t149, .slice Ao14 t157.length co14] 24 (0, 0)) (by (with_reducible repeat (first | refine blk_drewN ?_ _ | refine blk_drew ?_ | refine blk_alloc ?_ _)); exact BK154.out) hb); have n5_ := Aside0.mk (blk_below (g := gb165) (o := .cells #[.int .i64 t159, .int .i64 t160, .slice Ao47 t161.length co47] 24 (0, 0)) (by (with_reducible repeat (first | refine blk_drewN ?_ _ | refine blk_drew ?_ | refine blk_alloc ?_ _)); exact BK165.out) hb); have n6_ := Aside0.mk (below_step (by repeat (first | (with_reducible first | exact HB.out | apply below_alloc | apply pw_below_drewN | apply below_drew1 | refine below_set ?_ GE147.out | refine below_set ?_ GE154.out | refine below_set ?_ GE165.out) | exact HB.out)) hb); clear HO_148002; clear HO_155002; clear HO_166002; clear BK147; clear BK154; clear BK165; clear HB; have HO_148002 := n0_; have HO_155002 := n1_; have HO_166002 := n2_; have BK147 := n3_; have BK154 := n4_; have BK165 := n5_; have HB := n6_; clear n0_ n1_ n2_ n3_ n4_ n5_ n6_; (try clear hb); (try clear hb2); (try clear hk); (try clear hi)))
           go_ret
           exact ⟨by first | rfl | (simp [errW_none, errW_some] <;> rfl) | (simp [*, errW_none, errW_some] <;> rfl), by repeat (first | (with_reducible first | exact HB.out | apply below_alloc | apply pw_below_drewN | apply below_drew1 | refine below_set ?_ GE147.out | refine below_set ?_ GE154.out | refine below_set ?_ GE165.out) | exact HB.out)⟩
          ·rw [if_neg c64] at H
           have c64b0 : decide (t167 < 0) = false := decide_eq_false c64
           clear c64
           by_cases c69 : t167 = t156
           ·rw [if_pos c69] at H
            have c69b0 : (t167 == t156) = true := beq_iff_eq.mpr c69
            have c69b1 : (t167 != t156) = false := bne_eq_false_iff_eq.mpr c69
            clear c69
            obtain rfl := Option.some.inj H
            have hnb70 := NB154_147.out
            have hnc70 := NB147_154.out
            have hnb71 := NB154_165.out
            have hnc71 := NB165_154.out
            have hcz72_0 : wc.cell? ⟨gb154, 0, none⟩ = some (.int .i64 t148) := (blk_cell BK154.out 0).trans rfl
            have hcz72_1 : wc.cell? ⟨gb154, 1, none⟩ = some (.int .i64 t149) := (blk_cell BK154.out 1).trans rfl
            have hcz72_2 : wc.cell? ⟨gb154, 2, none⟩ = some (.slice Ao14 t157.length co14) := (blk_cell BK154.out 2).trans rfl
            have hfz72_0 := blk_frozen BK154.out 0
            have hfz72_1 := blk_frozen BK154.out 1
            have hfz72_2 := blk_frozen BK154.out 2
            go_wp2_with (first | ((with_reducible refine gate_callee (f := 9) rfl ?_); refine goesL_ (some 60) rfl rfl Tryd.func9 (by kernel_rfl) rfl #[.agg #[.int .i64 t148, .int .i64 t149, .slice Ao14 t157.length co14], .int .i64 1] rfl (by (try simp only [List.map_toArray, List.map_cons, List.map_nil]); first | done | rfl | (simp only [List.length_drop, List.length_take]; rfl)) ?_; (with_reducible refine (laws_heldPainting.calls kj35 t148 t149 _ _ t157 1 t167 _ ?side1 ?side2 A63.out).mono ?_); (case side1 => repeat (first | exact (Kd.R_reads' HO_155002.out).2.2 | (with_reducible refine Kd.C_alloc ?_ _) | (with_reducible refine Kd.C_drewN ?_ _) | (with_reducible refine Kd.C_drew ?_))); (case side2 => exact (Kd.R_reads' HO_155002.out).2.1); rintro e w73 ⟨rfl, hb⟩; refine ⟨_, rfl, ?_⟩; have n0_ := Aside0.mk (Kd.R_below (by (with_reducible repeat (first | apply Kd.R_alloc | apply Kd.R_drewN | apply Kd.R_drew)); exact HO_148002.out) hb); have n1_ := Aside0.mk (Kd.R_below (by (with_reducible repeat (first | apply Kd.R_alloc | apply Kd.R_drewN | apply Kd.R_drew)); exact HO_155002.out) hb); have n2_ := Aside0.mk (Kd.R_below (by (with_reducible repeat (first | apply Kd.R_alloc | apply Kd.R_drewN | apply Kd.R_drew)); exact HO_166002.out) hb); have n3_ := Aside0.mk (blk_below (g := gb147) (o := .cells #[.int .i64 t141, .int .i64 t142, .slice Ao9 t143.length co9] 24 (0, 0)) (by (with_reducible repeat (first | refine blk_drewN ?_ _ | refine blk_drew ?_ | refine blk_alloc ?_ _)); exact BK147.out) hb); have n4_ := Aside0.mk (blk_below (g := gb154) (o := .cells #[.int .i64 t148, .int .i64 t149, .slice Ao14 t157.length co14] 24 (0, 0)) (by (with_reducible repeat (first | refine blk_drewN ?_ _ | refine blk_drew ?_ | refine blk_alloc ?_ _)); exact BK154.out) hb); have n5_ := Aside0.mk (blk_below (g := gb165) (o := .cells #[.int .i64 t159, .int .i64 t160, .slice Ao47 t161.length co47] 24 (0, 0)) (by (with_reducible repeat (first | refine blk_drewN ?_ _ | refine blk_drew ?_ | refine blk_alloc ?_ _)); exact BK165.out) hb); have n6_ := Aside0.mk (below_step (by repeat (first | (with_reducible first | exact HB.out | apply below_alloc | apply pw_below_drewN | apply below_drew1 | refine below_set ?_ GE147.out | refine below_set ?_ GE154.out | refine below_set ?_ GE165.out) | exact HB.out)) hb); clear HO_148002; clear HO_155002; clear HO_166002; clear BK147; clear BK154; clear BK165; clear HB; have HO_148002 := n0_; have HO_155002 := n1_; have HO_166002 := n2_; have BK147 := n3_; have BK154 := n4_; have BK165 := n5_; have HB := n6_; clear n0_ n1_ n2_ n3_ n4_ n5_ n6_; (try clear hb); (try clear hb2); (try clear hk); (try clear hi)))
            go_ret
            exact ⟨by first | rfl | (simp [errW_none, errW_some] <;> rfl) | (simp [*, errW_none, errW_some] <;> rfl), by repeat (first | (with_reducible first | exact HB.out | apply below_alloc | apply pw_below_drewN | apply below_drew1 | refine below_set ?_ GE147.out | refine below_set ?_ GE154.out | refine below_set ?_ GE165.out) | exact HB.out)⟩
           ·rw [if_neg c69] at H
            have c69b0 : (t167 == t156) = false := beq_eq_false_iff_ne.mpr c69
            have c69b1 : (t167 != t156) = true := bne_iff_ne.mpr c69
            obtain rfl := Option.some.inj H
            have hnb74 := NB154_147.out
            have hnc74 := NB147_154.out
            have hnb75 := NB154_165.out
            have hnc75 := NB165_154.out
            have hcz76_0 : wc.cell? ⟨gb154, 0, none⟩ = some (.int .i64 t148) := (blk_cell BK154.out 0).trans rfl
            have hcz76_1 : wc.cell? ⟨gb154, 1, none⟩ = some (.int .i64 t149) := (blk_cell BK154.out 1).trans rfl
            have hcz76_2 : wc.cell? ⟨gb154, 2, none⟩ = some (.slice Ao14 t157.length co14) := (blk_cell BK154.out 2).trans rfl
            have hfz76_0 := blk_frozen BK154.out 0
            have hfz76_1 := blk_frozen BK154.out 1
            have hfz76_2 := blk_frozen BK154.out 2
            go_wp2_with (first | ((with_reducible refine gate_callee (f := 9) rfl ?_); refine goesL_ (some 60) rfl rfl Tryd.func9 (by kernel_rfl) rfl #[.agg #[.int .i64 t148, .int .i64 t149, .slice Ao14 t157.length co14], .int .i64 1] rfl (by (try simp only [List.map_toArray, List.map_cons, List.map_nil]); first | done | rfl | (simp only [List.length_drop, List.length_take]; rfl)) ?_; (with_reducible refine (laws_heldPainting.calls kj35 t148 t149 _ _ t157 1 t167 _ ?side1 ?side2 A63.out).mono ?_); (case side1 => repeat (first | exact (Kd.R_reads' HO_155002.out).2.2 | (with_reducible refine Kd.C_alloc ?_ _) | (with_reducible refine Kd.C_drewN ?_ _) | (with_reducible refine Kd.C_drew ?_))); (case side2 => exact (Kd.R_reads' HO_155002.out).2.1); rintro e w77 ⟨rfl, hb⟩; refine ⟨_, rfl, ?_⟩; have n0_ := Aside0.mk (Kd.R_below (by (with_reducible repeat (first | apply Kd.R_alloc | apply Kd.R_drewN | apply Kd.R_drew)); exact HO_148002.out) hb); have n1_ := Aside0.mk (Kd.R_below (by (with_reducible repeat (first | apply Kd.R_alloc | apply Kd.R_drewN | apply Kd.R_drew)); exact HO_155002.out) hb); have n2_ := Aside0.mk (Kd.R_below (by (with_reducible repeat (first | apply Kd.R_alloc | apply Kd.R_drewN | apply Kd.R_drew)); exact HO_166002.out) hb); have n3_ := Aside0.mk (blk_below (g := gb147) (o := .cells #[.int .i64 t141, .int .i64 t142, .slice Ao9 t143.length co9] 24 (0, 0)) (by (with_reducible repeat (first | refine blk_drewN ?_ _ | refine blk_drew ?_ | refine blk_alloc ?_ _)); exact BK147.out) hb); have n4_ := Aside0.mk (blk_below (g := gb154) (o := .cells #[.int .i64 t148, .int .i64 t149, .slice Ao14 t157.length co14] 24 (0, 0)) (by (with_reducible repeat (first | refine blk_drewN ?_ _ | refine blk_drew ?_ | refine blk_alloc ?_ _)); exact BK154.out) hb); have n5_ := Aside0.mk (blk_below (g := gb165) (o := .cells #[.int .i64 t159, .int .i64 t160, .slice Ao47 t161.length co47] 24 (0, 0)) (by (with_reducible repeat (first | refine blk_drewN ?_ _ | refine blk_drew ?_ | refine blk_alloc ?_ _)); exact BK165.out) hb); have n6_ := Aside0.mk (below_step (by repeat (first | (with_reducible first | exact HB.out | apply below_alloc | apply pw_below_drewN | apply below_drew1 | refine below_set ?_ GE147.out | refine below_set ?_ GE154.out | refine below_set ?_ GE165.out) | exact HB.out)) hb); clear HO_148002; clear HO_155002; clear HO_166002; clear BK147; clear BK154; clear BK165; clear HB; have HO_148002 := n0_; have HO_155002 := n1_; have HO_166002 := n2_; have BK147 := n3_; have BK154 := n4_; have BK165 := n5_; have HB := n6_; clear n0_ n1_ n2_ n3_ n4_ n5_ n6_; (try clear hb); (try clear hb2); (try clear hk); (try clear hi)))
            go_ret
            exact ⟨by first | rfl | (simp [errW_none, errW_some] <;> rfl) | (simp [*, errW_none, errW_some] <;> rfl), by repeat (first | (with_reducible first | exact HB.out | apply below_alloc | apply pw_below_drewN | apply below_drew1 | refine below_set ?_ GE147.out | refine below_set ?_ GE154.out | refine below_set ?_ GE165.out) | exact HB.out)⟩
      ·rw [if_neg c34] at H
       have c34b0 : (t158 == t156) = false := beq_eq_false_iff_ne.mpr c34
       have c34b1 : (t158 != t156) = true := bne_iff_ne.mpr c34
       obtain rfl := Option.some.inj H
       have hnb78 := NB154_147.out
       have hnc78 := NB147_154.out
       have hcz79_0 : wc.cell? ⟨gb154, 0, none⟩ = some (.int .i64 t148) := (blk_cell BK154.out 0).trans rfl
       have hcz79_1 : wc.cell? ⟨gb154, 1, none⟩ = some (.int .i64 t149) := (blk_cell BK154.out 1).trans rfl
       have hcz79_2 : wc.cell? ⟨gb154, 2, none⟩ = some (.slice Ao14 t150.length co14) := (blk_cell BK154.out 2).trans rfl
       have hfz79_0 := blk_frozen BK154.out 0
       have hfz79_1 := blk_frozen BK154.out 1
       have hfz79_2 := blk_frozen BK154.out 2
       go_wp2_with (first | ((with_reducible refine gate_callee (f := 8) rfl ?_); refine goesL_ (some 35) rfl rfl Tryd.func8 (by kernel_rfl) rfl #[.agg #[.int .i64 t148, .int .i64 t149, .slice Ao14 t150.length co14], .int .i64 1] rfl (by (try simp only [List.map_toArray, List.map_cons, List.map_nil]); first | done | rfl | (simp only [List.length_drop, List.length_take]; rfl)) ?_; (with_reducible refine (laws_markPainting.calls kj4 t148 t149 (fun k_ => some k_ = (.slice Ao14 t150.length co14 : Value).ownBlock) (.slice Ao14 t150.length co14) t150 1 t156 t157 w _ ?side1 ?side2 A26.out).mono ?_); (case side1 => repeat (first | (with_reducible first | exact HB.out | apply below_alloc | apply pw_below_drewN | apply below_drew1 | refine below_set ?_ GE147.out | refine below_set ?_ GE154.out) | exact HB.out)); (case side2 => exact Kd.R_tight rfl HO_155002.out); rintro e w80 ⟨rfl, hy0, hb, hkp⟩; refine ⟨_, rfl, ?_⟩; have n0_ := Aside0.mk (Kd.R_mono (ok' := fun k_ => some k_ ≠ (.slice Ao14 t150.length co14 : Value).ownBlock) (Kd.R_keptB (HO_148002.out) hkp (fun k_ hk_ hs_ => (hk_) hs_)) (fun k_ hk_ => hk_.1)); have n1_ := Aside0.mk (Kd.R_reok rfl hy0 (fun k_ e_ => HO_155002.out.1 k_ e_)); have n2_ := Aside0.mk (blk_kept (by (with_reducible repeat (first | refine blk_drewN ?_ _ | refine blk_drew ?_ | refine blk_alloc ?_ _)); exact BK147.out) hkp (fun hs_ => (fun e_ => (Kd.R_ne HO_155002.out BK147.out (by decide)) e_) hs_)); have n3_ := Aside0.mk (blk_kept (by (with_reducible repeat (first | refine blk_drewN ?_ _ | refine blk_drew ?_ | refine blk_alloc ?_ _)); exact BK154.out) hkp (fun hs_ => (fun e_ => (Kd.R_ne HO_155002.out BK154.out (by decide)) e_) hs_)); have n4_ := Aside0.mk (hb); clear HO_148002; clear HO_155002; clear BK147; clear BK154; clear HB; have HO_148002 := n0_; have HO_155002 := n1_; have BK147 := n2_; have BK154 := n3_; have HB := n4_; clear n0_ n1_ n2_ n3_ n4_; (try clear hb); (try clear hkp); (try clear hy0); have hcz81_0 : w80.cell? ⟨gb154, 0, none⟩ = some (.int .i64 t148) := (blk_cell BK154.out 0).trans rfl; have hcz81_1 : w80.cell? ⟨gb154, 1, none⟩ = some (.int .i64 t149) := (blk_cell BK154.out 1).trans rfl; have hcz81_2 : w80.cell? ⟨gb154, 2, none⟩ = some (.slice Ao14 t150.length co14) := (blk_cell BK154.out 2).trans rfl; have hfz81_0 := blk_frozen BK154.out 0; have hfz81_1 := blk_frozen BK154.out 1; have hfz81_2 := blk_frozen BK154.out 2) | ((with_reducible refine gate_callee (f := 9) rfl ?_); refine goesL_ (some 38) rfl rfl Tryd.func9 (by kernel_rfl) rfl #[.agg #[.int .i64 t148, .int .i64 t149, .slice Ao14 t157.length co14], .int .i64 1] rfl (by (try simp only [List.map_toArray, List.map_cons, List.map_nil]); first | done | (rw [show t157.length = t150.length from (Kd.R_reads' HO_155002.out).1.symm] <;> rfl) | rfl | (simp only [List.length_drop, List.length_take]; rfl)) ?_; (with_reducible refine (laws_heldPainting.calls kj4 t148 t149 _ _ t157 1 t158 _ ?side1 ?side2 A27.out).mono ?_); (case side1 => repeat (first | exact (Kd.R_reads' HO_155002.out).2.2 | (with_reducible refine Kd.C_alloc ?_ _) | (with_reducible refine Kd.C_drewN ?_ _) | (with_reducible refine Kd.C_drew ?_))); (case side2 => rw [show t157.length = t150.length from (Kd.R_reads' HO_155002.out).1.symm]; exact (Kd.R_reads' HO_155002.out).2.1); rintro e w82 ⟨rfl, hb⟩; refine ⟨_, rfl, ?_⟩; have n0_ := Aside0.mk (Kd.R_below (by (with_reducible repeat (first | apply Kd.R_alloc | apply Kd.R_drewN | apply Kd.R_drew)); exact HO_148002.out) hb); have n1_ := Aside0.mk (Kd.R_below (by (with_reducible repeat (first | apply Kd.R_alloc | apply Kd.R_drewN | apply Kd.R_drew)); exact HO_155002.out) hb); have n2_ := Aside0.mk (blk_below (g := gb147) (o := .cells #[.int .i64 t141, .int .i64 t142, .slice Ao9 t143.length co9] 24 (0, 0)) (by (with_reducible repeat (first | refine blk_drewN ?_ _ | refine blk_drew ?_ | refine blk_alloc ?_ _)); exact BK147.out) hb); have n3_ := Aside0.mk (blk_below (g := gb154) (o := .cells #[.int .i64 t148, .int .i64 t149, .slice Ao14 t150.length co14] 24 (0, 0)) (by (with_reducible repeat (first | refine blk_drewN ?_ _ | refine blk_drew ?_ | refine blk_alloc ?_ _)); exact BK154.out) hb); have n4_ := Aside0.mk (below_step (by repeat (first | (with_reducible first | exact HB.out | apply below_alloc | apply pw_below_drewN | apply below_drew1 | refine below_set ?_ GE147.out | refine below_set ?_ GE154.out) | exact HB.out)) hb); clear HO_148002; clear HO_155002; clear BK147; clear BK154; clear HB; have HO_148002 := n0_; have HO_155002 := n1_; have BK147 := n2_; have BK154 := n3_; have HB := n4_; clear n0_ n1_ n2_ n3_ n4_; (try clear hb); (try clear hb2); (try clear hk); (try clear hi)))
       go_ret
       exact ⟨by first | rfl | (simp [errW_none, errW_some] <;> rfl) | (simp [*, errW_none, errW_some] <;> rfl), by repeat (first | (with_reducible first | exact HB.out | apply below_alloc | apply pw_below_drewN | apply below_drew1 | refine below_set ?_ GE147.out | refine below_set ?_ GE154.out) | exact HB.out)⟩

/-- THE ONE PURE STATEMENT of laws_FnExactParsePainting: yours. -/
def laws_FnExactParsePainting.Pure : Prop := ∀ (a0 : ByteArray), a0.size ≤ 140737488351232 → ∃ k, laws_FnExactParsePainting.f k a0 = some true
theorem laws_FnExactParsePainting.walk (P : laws_FnExactParsePainting.Pure) (a0 : ByteArray) (w : World) (hG : Tab w) (w0 : a0.size ≤ 140737488351232) :
  Calls Tryd.prog 3 #[.string a0] w fun e w' => e = .returned (.bool true) ∧ Below w.heap.size w w' := by
 have HG := Aside0.mk hG
 clear hG
 obtain ⟨k, h⟩ := P a0 w0
 refine (laws_FnExactParsePainting.calls k a0 true w ?sideG h).mono ?_; (case sideG => first | exact HG.out | exact Tab.below HG.out (by repeat (first | (with_reducible first | exact HB.out | apply below_alloc | apply pw_below_drewN | apply below_drew1) | exact HB.out)))
 rintro e w' ⟨rfl, hd⟩
 exact ⟨rfl, hd⟩

end Go.Proofs.YtnmhhhpllffpeaaDoor.Q
