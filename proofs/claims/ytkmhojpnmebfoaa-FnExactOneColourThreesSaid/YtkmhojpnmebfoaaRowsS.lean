/- Rows of rows that lie apart (the print's Kd.S): one appended to another; the rows put into another order. No condition. -/
import Derived.Test.YtkmhojpnmebfoaaProg
import Derived.Test.YtkmhojpnmebfoaaV1
import Derived.Test.YtkmhojpnmebfoaaV2WGuardMore
namespace Go.Proofs.Ytkmhojpnmebfoaa.Q
open Go.RowKit Go.Proofs.YtkmhojpnmebfoaaW.PrintWords Go.Proofs.YtkmhojpnmebfoaaW.PrintLast Go.Proofs.YtkmhojpnmebfoaaW.PrintMore
set_option linter.unusedVariables false
open Kd in
/-- append(v, ys...), both rows of rows apart, the second one younger. -/
theorem S_append_rows_step {P : Program} {ops : Array Oper} {o : Oper} {a : Act} {Q : Exit → Act → World → Prop} {Kc : Act → World → Prop} {α : Type} (d : Kd α) {w0 W : World} (base : Nat) (hw : Region.wanted o (yielded ops a.tmps) = true) (s x : Operand) (t e : TypeId) (z : Value) (bytes : Nat)
    (ho : o.op = .call { callee := .builtin .append, args := #[s, x], argTypes := #[t, t] })
    (ht : P.underlying t = some (.slice e)) (hinfo : (P.info? e).map (fun i => (i.zero, i.size, i.bytes)) = some (some z, d.sz, bytes)) (hz : z.cells.size = d.sz) (hs0 : 0 < d.sz) (hb0 : 0 < bytes)
    (v : Value) (xs ys : List α) (A : Option Addr) (m c : Nat) (ok : Nat → Prop) (lim : Nat) (hs : a.eval s = v) (hx : a.eval x = .slice A m c)
    (HO : Kd.S d e W base (fun k => ok k ∧ k < lim) v xs) (HR : Kd.S d e W base (fun k => ok k ∧ lim ≤ k) (.slice A m c) ys) (hfresh : ∀ k, W.heap.size ≤ k → ok k)
    (HB : Below base w0 W) (hbase : base ≤ W.heap.size) (hl : (xs.length + m) * bytes ≤ 140737488355328)
    (h : ∀ v1 w1, Kd.S d e w1 base ok v1 (xs ++ ys) → Below base w0 w1 → W.grownBy w1 v.ownBlock → (v1.ownBlock = v.ownBlock ∨ ∃ b, v1.ownBlock = some b ∧ W.heap.size ≤ b) → Kc (a.put o.dst v1) w1) :
    if Region.wanted o (yielded ops a.tmps) = true then Oper.wp P o a W Kc Q else Kc (a.put o.dst undef) W := by
  obtain ⟨f, hf⟩ := HO
  obtain ⟨g, hg⟩ := HR
  refine R_append_rows_step (tag (fun k => if k < lim then f k else xs.length + g k) d) (Rr := (tag (fun k => if k < lim then f k else xs.length + g k) d).M W base (fun k => ok k ∧ lim ≤ k)) base hw s x t e z bytes ho ht hinfo hz hs0 hb0 v xs.zipIdx (ys.zipIdx xs.length) A m c ok (fun k => ok k ∧ lim ≤ k) hs hx ?_ ?_ (fun _ _ h => h) ?_ hfresh HB hbase (by rw [List.length_zipIdx]; exact hl) ?_
  · exact R_mono (R_tag hf (fun k hk _ => if_pos hk.2)) (fun _ hk => hk.1)
  · obtain ⟨A', c', he, hl', hr⟩ := OwnRow.reads hg.2
    injection he with e1 e2 e3
    subst e1
    rw [List.length_zipIdx] at hr e2
    refine ⟨by rw [List.length_zipIdx]; exact e2.symm, by rw [e2]; exact hr.2.1, fun hp => ?_⟩
    obtain ⟨ad, hA, hc⟩ := hr.2.2 (by omega)
    refine ⟨ad, hA, fun j p hj => ?_⟩
    rw [List.getElem?_zipIdx] at hj
    obtain ⟨y, hy, rfl⟩ := Option.map_eq_some_iff.1 hj
    obtain ⟨c1, q1, q2, q3⟩ := hc j (y, j) (zip_at hy)
    refine ⟨c1, q1, d.M_mono (fun k hk => ⟨hk.1.1, ?_⟩) q2, q3⟩
    have h2 := hk.1.1.2
    have h3 : g k = j := hk.2
    show (if k < lim then f k else xs.length + g k) = xs.length + j
    rw [if_neg (by omega), h3]
  · intro k hk
    refine ⟨hk.1, fun e => ?_⟩
    have := (hf.1 k e.symm).2
    omega
  · intro v1 w1 hr
    have e : xs.zipIdx ++ ys.zipIdx xs.length = (xs ++ ys).zipIdx := by rw [List.zipIdx_append, Nat.zero_add]
    rw [e] at hr
    exact h v1 w1 ⟨_, hr⟩
open Kd in
/-- A row of rows apart whose cells are put into another order. -/
theorem S_order {α : Type} {d : Kd α} (h1 : d.sz = 1) (z : α) {e base g cap : Nat} {w : World} {ok : Nat → Prop} {xs : List α} (hS : Kd.S d e w base ok (.slice (some ⟨g, 0, none⟩) xs.length cap) xs) :
    ∃ (inner : List Value) (cur : Array Value), inner.length = xs.length ∧ (∀ u ∈ inner, u.oneCell' = true) ∧ w.heap[g]? = some (.cells cur e (0, 0)) ∧ cur.toList.take xs.length = inner ∧ xs.length ≤ cur.size ∧
      (∀ W' : World, (∀ k, k ≠ g → k < w.heap.size → W'.heap[k]? = w.heap[k]?) → ∀ i, i < xs.length → d.K W' (xs.getD i z) [inner.getD i undef]) ∧
      (∀ (p : List Nat) (W' : World) (cells' : Array Value), p.Perm (List.range xs.length) → W'.heap[g]? = some (.cells cells' e (0, 0)) → cells'.size = cur.size → cells'.toList.take xs.length = p.map (inner.getD · undef) → (∀ k, k ≠ g → k < w.heap.size → W'.heap[k]? = w.heap[k]?) →
        Kd.S d e W' base ok (.slice (some ⟨g, 0, none⟩) xs.length cap) (p.map (xs.getD · z))) := by
  obtain ⟨f, h0, inner, ho, hr⟩ := hS
  have hrl := hr.1
  rw [List.length_zipIdx] at ho hrl
  rw [show (tag f d).sz = 1 from h1, Nat.mul_one] at hrl
  have hob : (Value.slice (some ⟨g, 0, none⟩) xs.length cap).ownBlock = some g := by simp [Value.ownBlock]
  have hM : ∀ i, i < xs.length → d.M w base (fun k => (ok k ∧ some k ≠ (Value.slice (some ⟨g, 0, none⟩) xs.length cap).ownBlock) ∧ f k = i) (xs.getD i z) [inner.getD i undef] := by
    intro i hi
    have := hr.2 i (xs[i], i) (zip_at (List.getElem?_eq_getElem hi))
    have hc : ((inner.drop (i * (tag f d).sz)).take (tag f d).sz) = [inner.getD i undef] := by
      show (inner.drop (i * d.sz)).take d.sz = _
      rw [h1, Nat.mul_one, List.drop_eq_getElem_cons (by omega), List.take_succ_cons, List.take_zero, List.getD_eq_getElem?_getD, List.getElem?_eq_getElem (by omega), Option.getD_some]
    rw [hc] at this
    have hx : xs.getD i z = xs[i] := by rw [List.getD_eq_getElem?_getD, List.getElem?_eq_getElem hi, Option.getD_some]
    rw [hx]
    exact this
  have hmove : ∀ (W' : World), (∀ k, k ≠ g → k < w.heap.size → W'.heap[k]? = w.heap[k]?) → ∀ i, i < xs.length → d.M W' base (fun k => (ok k ∧ some k ≠ (Value.slice (some ⟨g, 0, none⟩) xs.length cap).ownBlock) ∧ f k = i) (xs.getD i z) [inner.getD i undef] := by
    intro W' hW i hi
    refine d.M_mono (fun k hk => hk.1) (d.M_move (fun k hk => ?_) (d.M_bound (hM i hi)))
    exact hW k (fun e => hk.1.1.2 (by rw [hob, e])) hk.2.2.1
  rcases ho.2 with ⟨he, _⟩ | ⟨g', cap', cur, he, hbs, hgb, r1, r2, r3, r4⟩
  · cases he
  · injection he with e1 e2 e3
    injection e1 with e1
    injection e1 with e1
    subst e1
    subst e3
    rw [show (tag f d).sz = 1 from h1] at r3 r4
    rw [Nat.mul_one] at r3 r4
    refine ⟨inner, cur, hrl, fun u hu => ?_, hgb, r4, by omega, fun W' hW i hi => d.K_of_M (hmove W' hW i hi), ?_⟩
    · obtain ⟨i, hi, rfl⟩ := List.getElem_of_mem hu
      have := d.K_one (d.K_of_M (hM i (by omega))) (inner.getD i undef) (by simp)
      rwa [List.getD_eq_getElem?_getD, List.getElem?_eq_getElem hi, Option.getD_some] at this
    · intro p W' cells' hp hW hsz ht hk
      have hpl : p.length = xs.length := by rw [hp.length_eq, List.length_range]
      have hnd : p.Nodup := hp.nodup_iff.2 List.nodup_range
      refine ⟨fun k => p.idxOf (f k), h0, p.map (inner.getD · undef), ?_, ?_⟩
      · rw [List.length_zipIdx, List.length_map, hpl]
        refine ⟨by rw [List.length_map, hpl]; show _ = _ * d.sz; rw [h1, Nat.mul_one], .inr ⟨g, cap, cells', rfl, hbs, hW, r1, r2, ?_, ?_⟩⟩
        · show _ = cap * d.sz; rw [h1, Nat.mul_one, hsz, r3]
        · show cells'.toList.take (xs.length * d.sz) = _; rw [h1, Nat.mul_one]; exact ht
      · refine ⟨by rw [List.length_map, List.length_zipIdx, List.length_map]; show _ = _ * d.sz; rw [h1, Nat.mul_one], fun j q hj => ?_⟩
        rw [List.getElem?_zipIdx, List.getElem?_map] at hj
        obtain ⟨y, hy, rfl⟩ := Option.map_eq_some_iff.1 hj
        obtain ⟨i, hi, rfl⟩ := Option.map_eq_some_iff.1 hy
        obtain ⟨hjl, hji⟩ := List.getElem?_eq_some_iff.1 hi
        have hil : i < xs.length := List.mem_range.1 (hp.mem_iff.1 (by rw [← hji]; exact List.getElem_mem hjl))
        have hc : (((p.map (inner.getD · undef)).drop (j * (tag (fun k => p.idxOf (f k)) d).sz)).take (tag (fun k => p.idxOf (f k)) d).sz) = [inner.getD i undef] := by
          show ((p.map (inner.getD · undef)).drop (j * d.sz)).take d.sz = _
          rw [h1, Nat.mul_one, List.drop_eq_getElem_cons (by rw [List.length_map]; exact hjl), List.take_succ_cons, List.take_zero, List.getElem_map, hji]
        rw [hc, Nat.zero_add]
        refine d.M_mono (fun k hk => ⟨hk.1, ?_⟩) (hmove W' hk i hil)
        show p.idxOf (f k) = j
        rw [hk.2, ← hji]
        exact List.Nodup.idxOf_getElem hnd j hjl
theorem S_levelR {α : Type} {d : Kd α} {e : Nat} {w1 W : World} {ok : Nat → Prop} {v : Value} {xs : List α} (_ : Kd.S d e w1 W.heap.size ok v xs) : ∃ n, n = W.heap.size := ⟨_, rfl⟩
end Go.Proofs.Ytkmhojpnmebfoaa.Q
