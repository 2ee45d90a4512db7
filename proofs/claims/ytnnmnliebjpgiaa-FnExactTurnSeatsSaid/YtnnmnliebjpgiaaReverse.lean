/- A part of a row of whole numbers of one's own, written anew by the library: the row holds the list with that part in its place. No condition. -/
import Derived.Sort.OwnSortedInts
import Derived.Shelf.Slices.Reverse
import Derived.Test.YtnnmnliebjpgiaaProg
import Derived.Test.YtnnmnliebjpgiaaShelf
import Derived.Test.YtnnmnliebjpgiaaV1
import Derived.Test.YtnnmnliebjpgiaaV2WGuardMore
namespace Go.Proofs.Ytnnmnliebjpgiaa.Q
open Go.RowKit Go.Sort Go.Proofs.YtnnmnliebjpgiaaW.PrintWords Go.Proofs.YtnnmnliebjpgiaaW.PrintLast Go.Proofs.YtnnmnliebjpgiaaW.PrintMore
set_option linter.unusedVariables false

theorem holds_part {w : World} {g off : Nat} {cur : Array Value} {e : TypeId} {ss zs : List Int} (hb : w.heap[g]? = some (.cells cur e (0, 0))) (ht : cur.toList.take ss.length = ss.map (Value.int .i64)) (hz : off + zs.length ≤ ss.length) (hp : ∀ j, (hj : j < zs.length) → zs[j] = ss[off + j]) : Holds (Value.int .i64) w g off zs.toArray := by
  intro j hj
  have hj' : j < zs.length := by simpa using hj
  refine ⟨?_, by simp [World.frozen?, hb]⟩
  have h1 : (cur.toList.take ss.length)[off + j]? = (ss.map (Value.int .i64))[off + j]? := by rw [ht]
  rw [List.getElem?_take_of_lt (by omega)] at h1
  simp only [World.cell?, hb]
  simp only [Option.isSome_none, Bool.false_eq_true, if_false]
  rw [← Array.getElem?_toList, h1]
  simp [hj', show off + j < ss.length by omega, hp j hj']

theorem grownBy_part {w : World} {g n off : Nat} (d : Array Int) : w.grownBy (putRow (Value.int .i64) (Sort.ahead w n) g off d) (some g) := by
  refine ⟨rfl, rfl, rfl, by simp [putRow, mapBlock, Sort.ahead], fun k hk hne => ?_⟩
  have : g ≠ k := fun e => hne (by rw [e])
  simp [putRow, mapBlock, Sort.ahead, Array.getElem?_modify, this]

theorem owns_part {w : World} {base g cap n off : Nat} {e : TypeId} {cur : Array Value} {ss zs : List Int} (hbase : base ≤ g) (hb : w.heap[g]? = some (.cells cur e (0, 0))) (ht : cur.toList.take ss.length = ss.map (Value.int .i64))
    (h1 : ss.length ≤ cap) (h2 : cap ≤ maxLen) (h3 : cur.size = cap * 1) (hz : off + zs.length ≤ ss.length) :
    (putRow (Value.int .i64) (Sort.ahead w n) g off zs.toArray).ownsRow base e 1 (.slice (some ⟨g, 0, none⟩) ss.length cap) ss.length ((ss.take off ++ zs ++ ss.drop (off + zs.length)).map (Value.int .i64)) := by
  have hh : (putRow (Value.int .i64) (Sort.ahead w n) g off zs.toArray).heap[g]? = some (.cells (putCells (Value.int .i64) off zs.toArray cur) e (0, 0)) := by
    simp [putRow, mapBlock, Sort.ahead, Array.getElem?_modify, hb, onCells]
  refine ⟨by simp; omega, .inr ⟨g, cap, _, rfl, hbase, hh, h1, h2, by simp [putCells, h3], ?_⟩⟩
  rw [Nat.mul_one]
  apply List.ext_getElem?
  intro j
  by_cases hj : j < ss.length
  · have hc : cur[j]? = some (.int .i64 ss[j]) := by
      have hq : (cur.toList.take ss.length)[j]? = (ss.map (Value.int .i64))[j]? := by rw [ht]
      rw [List.getElem?_take_of_lt hj, Array.getElem?_toList] at hq
      rw [hq]; simp [hj]
    rw [List.getElem?_take_of_lt hj, Array.getElem?_toList]
    unfold putCells
    rw [Array.getElem?_mapIdx, hc, List.getElem?_map]
    simp only [Option.map_some, List.size_toArray]
    by_cases c : off ≤ j ∧ j < off + zs.length
    · rw [if_pos c, List.append_assoc, List.getElem?_append_right (by rw [List.length_take]; omega), List.length_take, Nat.min_eq_left (by omega), List.getElem?_append_left (by omega)]
      simp [show j - off < zs.length by omega]
    · rw [if_neg c]
      by_cases c2 : j < off
      · rw [List.append_assoc, List.getElem?_append_left (by rw [List.length_take]; omega), List.getElem?_take_of_lt c2]
        simp [hj]
      · rw [List.getElem?_append_right (by rw [List.length_append, List.length_take]; omega), List.length_append, List.length_take, Nat.min_eq_left (by omega), List.getElem?_drop, show off + zs.length + (j - (off + zs.length)) = j by omega]
        simp [hj]
  · rw [List.getElem?_eq_none (by rw [List.length_take]; omega), List.getElem?_eq_none (by rw [List.length_map, List.length_append, List.length_append, List.length_take, List.length_drop]; omega)]

/-- A part of one's own row, and the row behind that part's being written anew. -/
theorem part_of_own {w : World} {base g cap off : Nat} {e : TypeId} {l zs ys : List Int} (h : w.ownsRow base e 1 (.slice (some ⟨g, 0, none⟩) l.length cap) l.length (encs (Value.int .i64) l)) (hn : 0 < l.length) (hz : off + zs.length ≤ l.length) (hp : ∀ j, (hj : j < zs.length) → zs[j] = l[off + j]) (hy : ys.length = zs.length) :
    Holds (Value.int .i64) w g off zs.toArray ∧ base ≤ g ∧ ∀ n, Kd.R (Kd.int .i64) e (putRow (Value.int .i64) (Sort.ahead w n) g off ys.toArray) base (fun _ => True) (.slice (some ⟨g, 0, none⟩) l.length cap) (l.take off ++ ys ++ l.drop (off + ys.length)) := by
  rcases h.2 with ⟨h0, _⟩ | ⟨g', cap', cur, h0, hbs, hgb, r1, r2, r3, r4⟩
  · injection h0 with h0; cases h0
  · injection h0 with e1 e2 e3
    injection e1 with e1
    injection e1 with e1
    subst e1; subst e3
    rw [Nat.mul_one] at r4
    refine ⟨holds_part hgb r4 hz hp, hbs, fun n => ?_⟩
    have ho := owns_part (n := n) (zs := ys) (off := off) hbs hgb r4 r1 r2 r3 (by omega)
    have hl : (l.take off ++ ys ++ l.drop (off + ys.length)).length = l.length := by simp; omega
    exact Kd.R_of_own (by rw [hl]; exact ho) (fun _ _ => trivial)
theorem below_part {w W : World} {g n off : Nat} {d : Array Int} (hb : Below w.heap.size w W) (hg : w.heap.size ≤ g) : Below w.heap.size w (putRow (Value.int .i64) (Sort.ahead W n) g off d) :=
  hb.grown (grownBy_part d) hb.size (fun j hj => by cases hj; exact hg)
end Go.Proofs.Ytnnmnliebjpgiaa.Q
