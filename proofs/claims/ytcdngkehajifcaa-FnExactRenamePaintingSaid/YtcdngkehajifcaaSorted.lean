/- slices.Sorted(slices.Values(l)) over whole numbers: it makes a new slice that holds l, sorted. No condition but the model's own bound on l's bytes. -/
import Derived.RangeFuncBox
import Derived.RangeFuncLeaves
import Derived.Shelf.Abstract
import Derived.WalkKit
import Derived.OwnWalkIn
import Derived.TacticsInMore
import Derived.LoopNIn
import Derived.LoopIn
import Derived.Maps.AppendAt
import Derived.RangeFuncBound
import Derived.Sort.OwnSortedInts
import Derived.Test.YtcdngkehajifcaaProg
import Derived.Test.YtcdngkehajifcaaShelf
import Derived.Test.YtcdngkehajifcaaV1
import Derived.Test.YtcdngkehajifcaaV2WGuardMore
namespace Go.Proofs.Ytcdngkehajifcaa.Q
open Go.RowKit Go.Shelf Go.Sort Go.Proofs.YtcdngkehajifcaaW.PrintWords Go.Proofs.YtcdngkehajifcaaW.PrintLast Go.Proofs.YtcdngkehajifcaaW.PrintMore
attribute [local go_sem] Oper.semAt_some
set_option linter.unusedVariables false
set_option linter.unusedSimpArgs false

set_option maxRecDepth 100000 in
set_option maxHeartbeats 2000000 in
/-- The closure of slices.Values: for every loop body that keeps what lay below the heap's size of w0, where the slice was read. -/
theorem vals1_in (F : Fence) (n : Nat) (h7 : F.fn 110) (hro : F.round = none) (hn : 1 ≤ n) (l Bs : Nat) (A0 : Option Addr) (c0 : Nat) (zs : List Int) (w0 : World) (hr : Kd.C (Kd.int .i64) w0 A0 zs.length zs) (J Jx : List Int → World → Prop)
    (hY : ∀ pre x W, J pre W → pre.length < zs.length → YieldAt F (n - 1) Try.prog l #[.int .i64 x] W fun e W' =>
      (e = .returned (.bool true) ∧ J (pre ++ [x]) W' ∧ Below w0.heap.size W W') ∨ (e = .returned (.bool false) ∧ Jx (pre ++ [x]) W'))
    (W : World) (hBs : W.cell? ⟨Bs, 0, none⟩ = some (.slice A0 zs.length c0)) (hW : Below w0.heap.size w0 W) (h0 : J [] W) :
    CallsIn F n Try.prog 110 #[.func (.yield l) #[] #[], .pointer (some ⟨Bs, 0, none⟩)] W fun e W' => (∃ v, e = .returned v) ∧
      ((∃ ys, ys = zs ∧ J ys W') ∨ (∃ pre, pre <+: zs ∧ Jx pre W')) := by
  have hmax : zs.length ≤ 9223372036854775807 := Kd.C_max hr
  have HR := Aside0.mk hr
  clear hr
  refine callsIn_of_wp Try.func110 rfl h7 ?_ hro
  simp only [Try.ntmps110, List.size_toArray, List.length_cons, List.length_nil, Nat.reduceAdd, Nat.reduceSub, Array.replicate_succ, Array.replicate_zero, List.push_toArray, List.append_toArray, List.nil_append, List.cons_append]
  gi_wp2
  gi_loopw [7] (fun i wr => ∃ k : Nat, k ≤ zs.length ∧ i = .int .i64 k ∧ J (zs.take k) wr ∧ Aside0 (Below w0.heap.size w0 wr))
    (fun i _ => zs.length - (intOf i).toNat)
  case atStart => exact ⟨0, Nat.zero_le _, rfl, by rw [List.take_zero]; exact h0, ⟨hW⟩⟩
  case round =>
    obtain ⟨k, hk, rfl, hJs, hnx⟩ := hrel
    by_cases hlt : k < zs.length
    · have hlt' : (k : Int) < (zs.length : Int) := by omega
      have h00 : (0 : Int) ≤ (k : Int) := by omega
      obtain ⟨ad, e, hx⟩ := Kd.at_int HR.out (k : Int) h00 hlt'
      subst e
      replace hx := (hnx.out.cell (World.block_lt_of_cell? w0 _ hx)).trans hx
      have hz : Go.Proofs.YtcdngkehajifcaaW.PrintWords.rd zs (k : Int) = zs[k] := by simp [Go.Proofs.YtcdngkehajifcaaW.PrintWords.rd, hlt]
      rw [Int.toNat_natCast, hz] at hx
      have htk : (zs.take k).length < zs.length := by rw [List.length_take]; omega
      have hst : zs.take k ++ [zs[k]] = zs.take (k + 1) := (List.take_succ_eq_append_getElem hlt).symm
      obtain ⟨fn, tmps, assign, body, hy, hR⟩ := hY _ zs[k] wr hJs htk
      rw [hst] at hR
      generalize zs[k] = zk at hx hy hR
      clear hz hst htk
      gi_wp2
      refine hR.mono ?_
      rintro e W3 (⟨rfl, hJ3, hk3⟩ | ⟨rfl, hJx3⟩)
      · gi_wp2
        go_roundw
        case rel => exact ⟨k + 1, by omega, by simp, hJ3, ⟨hnx.out.trans hk3⟩⟩
        case measure => simp [intOf]; omega
      · gi_wp2
        refine bodyPost_ret (results_none rfl _ _ _) rfl ?_
        exact ⟨⟨_, rfl⟩, .inr ⟨_, List.take_prefix _ _, hJx3⟩⟩
    · obtain rfl : k = zs.length := by omega
      rw [List.take_length] at hJs
      gi_wp2
      go_end0
      exact ⟨⟨_, rfl⟩, .inl ⟨_, rfl, hJs⟩⟩

set_option maxHeartbeats 1000000 in
/-- slices.Values(s): the slice value is boxed; the function value captures the box. -/
theorem slices_Values.calls (a : Option Addr) (len cap : Nat) (w : World) :
    Calls Try.prog 93 #[.slice a len cap] w fun e w' => e = .returned (.func (.func 110) #[] #[.pointer (some ⟨w.heap.size, 0, none⟩)]) ∧ w' = w.alloc (.cells #[.slice a len cap] 22) := by
  go_enter Try.func93, Try.ntmps93
  go_wp2
  go_ret
  exact ⟨rfl, rfl⟩

/-- slices.Values(s) hands back a value that keeps 'SeqStopsK' at 'Below': all of zs, in its order; or a prefix of it. -/
theorem vals_stops (F : Fence) (n : Nat) (h7 : F.fn 110) (hro : F.round = none) (hn : 1 ≤ n) (Bs : Nat) (A0 : Option Addr) (c0 : Nat) (zs : List Int) (w : World) (hr : Kd.C (Kd.int .i64) w A0 zs.length zs) (hBs : Bs < w.heap.size)
    (hc : w.cell? ⟨Bs, 0, none⟩ = some (.slice A0 zs.length c0)) :
    SeqStopsK F n Try.prog 110 #[.pointer (some ⟨Bs, 0, none⟩)] (fun x : Int => #[Value.int .i64 x]) (Below w.heap.size) (fun ys => ys = zs) (fun pre => pre <+: zs) zs.length w := fun l J Jx W hW _ _ hY h0 =>
  vals1_in F n h7 hro hn l Bs A0 c0 zs w hr J Jx hY W ((hW.cell (p := ⟨Bs, 0, none⟩) hBs).trans hc) hW h0

theorem sorted_info : (Try.prog.info? 3).map (fun i => (i.zero, i.size, i.bytes)) = some (some (.int .i64 0), 1, 8) := by kernel_rfl

set_option maxRecDepth 100000 in
set_option maxHeartbeats 4000000 in
/-- slices.AppendSeq(nil, slices.Values(s)): a new slice that holds s. -/
theorem appendSeq_in (F : Fence) (n : Nat) (h3 : F.fn 127) (h5 : F.fn 110) (hro : F.round = none) (hn : 3 ≤ n) (Bs : Nat) (A0 : Option Addr) (c0 : Nat) (xs : List Int) (hlen : xs.length ≤ maxLen) (hbytes : xs.length * 8 ≤ 140737488355328) (w : World)
    (hr : Kd.C (Kd.int .i64) w A0 xs.length xs) (hBs : w.cell? ⟨Bs, 0, none⟩ = some (.slice A0 xs.length c0)) :
    CallsIn F n Try.prog 127 #[.slice none 0 0, .func (.func 110) #[] #[.pointer (some ⟨Bs, 0, none⟩)]] w fun e W' => ∃ v, e = .returned v ∧ W'.ownsRow w.heap.size 3 1 v xs.length (xs.map (Value.int .i64)) ∧ (v = .slice none 0 0 ↔ xs = []) ∧ Below w.heap.size w W' := by
  have h1 : 1 ≤ n := by omega
  obtain ⟨i0, hi, hz0, hz1, hz2⟩ := info_parts sorted_info
  have hBl : Bs < w.heap.size := World.block_lt_of_cell? w _ hBs
  refine callsIn_of_wp_marks Try.func127 rfl h3 ?_ hro
  simp only [Try.ntmps127, List.size_toArray, List.length_cons, List.length_nil, Nat.reduceAdd, Nat.reduceSub, Array.replicate_succ, Array.replicate_zero, List.push_toArray, List.append_toArray, List.nil_append, List.cons_append]
  gi_wp2
  have bO := Boxed.new w 22 (.slice none 0 0)
  have hB0 : Below w.heap.size w (w.alloc (.cells #[.slice none 0 0] 22)) := (Below.refl _ w).alloc (Nat.le_refl _) _
  refine wpIn_rangeFunc_ownG hro h1 (gf := 110) (lb := #[.pointer (some ⟨Bs, 0, none⟩)]) rfl h5 (enters_of Try.func110 (by kernel_rfl) rfl)
    (vals_stops F (n - 1) h5 hro (by omega) Bs A0 c0 xs w hr hBl hBs) belowK_t (belowK_b (by simp)) hB0 (fun _ => rfl)
    (fun pre W => (∃ v, Boxed W w.heap.size 22 v ∧ W.ownsRow w.heap.size 3 1 v pre.length (pre.map (Value.int .i64)) ∧ (v = .slice none 0 0 ↔ pre = [])) ∧ Below w.heap.size w W)
    (fun _ _ _ => False)
    (OwnFrom.and (Own.from (holdsRow_own w.heap.size w.heap.size 22 3 1 (fun pre => pre.length) (fun pre => pre.map (Value.int .i64)) (fun pre v => v = .slice none 0 0 ↔ pre = [])) _) (ownFrom_below (Nat.le_refl _) (by simp)))
    (fun _ _ _ _ _ hs _ _ => hs)
    ⟨⟨_, bO, World.ownsRow_nil _ _ _ _, by simp⟩, hB0⟩
    (fun x => { tmps := #[.slice none 0 0, .func (.func 110) #[] #[.pointer (some ⟨Bs, 0, none⟩)], .pointer (some ⟨w.heap.size, 0, none⟩), undef, .slice none 0 0, .int .i64 x, .func (.func 110) #[] #[.pointer (some ⟨Bs, 0, none⟩)], .int .i64 x, undef, undef, undef, undef, undef], defers := [] }) ?assign ?body ?done ?stop
  case assign =>
    intro l x W K hK
    gi_wp2
    exact hK
  case body =>
    rintro l pre x W ⟨⟨v, hv, hrow, hnil⟩, hB⟩ hlt
    have hc := hv.cell
    gi_wp2_with (gi_at_builtin; refine wpListIn_append_own _ rfl _ _ 22 rfl w.heap.size 3 i0 (.int .i64 0) 1 8 Try.underlying22 hi hz0 hz1 hz2 rfl (by decide) _ _ _ rfl (hrow.alloc _) ⟨W.heap.size, 0, none⟩ 1 1 [.int .i64 x] rfl rfl (cell_one_new _ _ _) (by simp [Value.oneCell']) (by omega) (by omega) (by have := hB.size; simp; omega) ?_; intro v' w1 hown' hgrow _; obtain ⟨g', cap', rfl⟩ := ownsRow_succ hown'; obtain ⟨hv1, hv2, hr2, hk2, hb2⟩ := hv.appended (by decide) hrow hB.size (Nat.le_refl _) hown' hgrow; have hc1 := hv1.cell; have hf1 := hv1.frozen)
    exact ⟨hk2.from _, hb2, ⟨_, hv2, by simpa using hr2, by simp⟩, hB.trans hb2⟩
  case done =>
    rintro D ys W hD rfl ⟨⟨v, hv, hrow, hnil⟩, hB⟩ hK
    have hc := hv.cell
    gi_wp2
    refine ⟨by simp, .inl ⟨_, _, rfl, run_takeDeferred hK, ?_⟩⟩
    exact ⟨_, results_tmp rfl _ _ _, v, rfl, ownsRow_putObj hrow _ hK rfl, hnil, hB.trans (belowK_b (w := w) (Nat.le_refl _) W D _ _ (by simp at hD; omega) hK rfl rfl)⟩
  case stop =>
    rintro D c pre W _ _ h _
    exact h.elim

set_option maxHeartbeats 2000000 in
/-- slices.Collect(slices.Values(s)). -/
theorem collect.calls (Bs : Nat) (A0 : Option Addr) (c0 : Nat) (xs : List Int) (hbytes : xs.length * 8 ≤ 140737488355328) (w : World)
    (hr : Kd.C (Kd.int .i64) w A0 xs.length xs) (hBs : w.cell? ⟨Bs, 0, none⟩ = some (.slice A0 xs.length c0)) :
    Calls Try.prog 109 #[.func (.func 110) #[] #[.pointer (some ⟨Bs, 0, none⟩)]] w fun e W' => ∃ v, e = .returned v ∧ W'.ownsRow w.heap.size 3 1 v xs.length (xs.map (Value.int .i64)) ∧ (v = .slice none 0 0 ↔ xs = []) ∧ Below w.heap.size w W' := by
  have hA := (callsIn_wide (n := 6)).1 (appendSeq_in Fence.wide 6 trivial trivial rfl (by omega) Bs A0 c0 xs (by simp only [maxLen]; omega) hbytes w hr hBs)
  clear hr hBs
  go_enter Try.func109, Try.ntmps109
  go_wp2_with (go_at_call 127; refine hA.mono ?_; rintro e w' ⟨v, rfl, hrow, hnil, hb⟩)
  go_ret
  exact ⟨v, rfl, hrow, hnil, hb⟩

set_option maxHeartbeats 2000000 in
/-- slices.Sorted(slices.Values(s)): a new slice that holds s, sorted. -/
theorem sorted.calls (Bs : Nat) (A0 : Option Addr) (c0 : Nat) (xs : List Int) (hbytes : xs.length * 8 ≤ 140737488355328) (w : World)
    (hr : Kd.C (Kd.int .i64) w A0 xs.length xs) (hBs : w.cell? ⟨Bs, 0, none⟩ = some (.slice A0 xs.length c0)) :
    Calls Try.prog 92 #[.func (.func 110) #[] #[.pointer (some ⟨Bs, 0, none⟩)]] w fun e W' => ∃ v, e = .returned v ∧ Kd.R (Kd.int .i64) 3 W' w.heap.size (fun _ => True) v (xs.mergeSort fun x y => decide (x ≤ y)) ∧ Below w.heap.size w W' := by
  have hC := Aside0.mk (collect.calls Bs A0 c0 xs hbytes w hr hBs)
  clear hr hBs
  have HS : Aside0 (∀ (blk off cap : Nat) (ss : List Int) (W : World), Holds (Value.int .i64) W blk off ss.toArray → blk < W.heap.size → ss.length < 4611686018427387904 →
    Calls Try.prog 85 #[.slice (some ⟨blk, off, none⟩) ss.length cap] W fun e w' => e = .returned (.tuple #[]) ∧ ∃ k os, w' = grow (putRow (Value.int .i64) (Sort.ahead W k) blk off (ss.mergeSort fun x y => decide (x ≤ y)).toArray) os) := ⟨fun blk off cap ss W h1 h2 h3 => Try.slices_Sort_int blk off cap ss W h1 h2 h3⟩
  have HN : Aside0 (∀ (p : Option Addr) (cap : Nat) (W : World), Calls Try.prog 85 #[.slice p 0 cap] W fun e w' => e = .returned (.tuple #[]) ∧ w' = W) := ⟨fun p cap W => Try.slices_Sort_int_none p cap W⟩
  go_enter Try.func92, Try.ntmps92
  go_wp2_with (go_at_call 109; refine hC.out.mono ?_; rintro e W ⟨v, rfl, hrow, hnil, hb⟩)
  rcases hrow.2 with ⟨rfl, hz⟩ | ⟨gb, cap, cur, rfl, hbase, hgb, r1, r2, r3, r4⟩
  · have hss : xs = [] := List.eq_nil_of_length_eq_zero hz
    subst hss
    go_wp2_with (go_at_call 85; refine (HN.out none 0 W).mono ?_; rintro e w' ⟨rfl, rfl⟩)
    go_ret
    exact ⟨.slice none 0 0, rfl, by simpa using Kd.R_nil _ _ _ _ _, hb⟩
  · have hH : Holds (Value.int .i64) W gb 0 xs.toArray := holds_of_blockI hgb (by simpa using r4)
    have hgl : gb < W.heap.size := (Array.getElem?_eq_some_iff.1 hgb).1
    have hsz : xs.length < 4611686018427387904 := by omega
    have cS := Aside0.mk (HS.out gb 0 cap xs W hH hgl hsz)
    clear hH
    go_wp2_with (go_at_call 85; refine cS.out.mono ?_; rintro e w' ⟨rfl, nn, os, rfl⟩)
    go_ret
    refine ⟨_, rfl, ?_, hb.grown (grownBy_sortedI _) hb.size (fun j hj => by cases hj; exact hbase)⟩
    have ho := ownsRow_sortedI (n := nn) (os := os) (ss := xs) (ts := xs.mergeSort fun x y => decide (x ≤ y)) (by simp) hbase hgb r1 r2 r3
    exact Kd.R_of_own (by rw [List.length_mergeSort]; exact ho) (fun _ _ => trivial)
end Go.Proofs.Ytcdngkehajifcaa.Q
