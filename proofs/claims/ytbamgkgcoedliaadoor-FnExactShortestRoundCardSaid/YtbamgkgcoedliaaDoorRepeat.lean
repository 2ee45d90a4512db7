/- A row of numbers of one's own: a run of cells written; the row's first part copied behind itself. No condition. -/
import Derived.Laws.IdiomCopy
import Derived.Test.YtbamgkgcoedliaaDoorV1
import Derived.Test.YtbamgkgcoedliaaDoorV2WGuardMore
namespace Go.Proofs.YtbamgkgcoedliaaDoor.Q
open Go.RowKit Go.Proofs.YtbamgkgcoedliaaDoorW.PrintWords Go.Proofs.YtbamgkgcoedliaaDoorW.PrintLast Go.Proofs.YtbamgkgcoedliaaDoorW.PrintMore
set_option linter.unusedVariables false

/-- A row of numbers behind a run of cells written. -/
theorem R_setCells {e base g N cap : Nat} {ok : Nat → Prop} : ∀ (ys : List Int) (o : Nat) {W : World} {xs : List Int}, (Kd.int .i64).R e W base ok (.slice (some ⟨g, 0, none⟩) N cap) xs → o + ys.length ≤ xs.length →
  (Kd.int .i64).R e (W.setCells g o (ys.map fun y => Value.int .i64 y)) base ok (.slice (some ⟨g, 0, none⟩) N cap) (xs.take o ++ ys ++ xs.drop (o + ys.length))
 | [], o, W, xs, h, _ => by simpa [World.setCells] using h
 | y :: r, o, W, xs, h, hl => by
  rw [List.length_cons] at hl
  have h1 := Kd.R_putn (enc := Value.int .i64) h (o : Int) y
  rw [Int.toNat_natCast] at h1
  have h2 := R_setCells r (o + 1) h1 (by rw [List.length_set]; omega)
  rw [List.map_cons, World.setCells]
  have e1 : (xs.set o y).take (o + 1) ++ r ++ (xs.set o y).drop (o + 1 + r.length) = xs.take o ++ (y :: r) ++ xs.drop (o + (y :: r).length) := by
   rw [List.drop_set_of_lt (by omega), List.take_succ_eq_append_getElem (by rw [List.length_set]; omega), List.getElem_set_self, List.take_set_of_le (Nat.le_refl _), List.length_cons, show o + 1 + r.length = o + (r.length + 1) by omega]
   simp
  rw [e1] at h2
  exact h2

/-- The first part of a row copied behind itself. -/
theorem copy_in {P : Program} {e base g cap : Nat} {ok : Nat → Prop} {W : World} {xs : List Int} (T ty E : TypeId) (hu : P.underlying T = some (.slice E)) (hs : (P.info? E).map (·.size) = some 1)
  (h : (Kd.int .i64).R e W base ok (.slice (some ⟨g, 0, none⟩) xs.length cap) xs) (n c1 c2 : Nat) (hn : n ≤ xs.length) :
  (Builtin.copy_ #[T, T] ty #[.slice (some ⟨g, n, none⟩) (xs.length - n) c1, .slice (some ⟨g, 0, none⟩) n c2]).run P W = .ok (.int .i64 ((Nat.min n (xs.length - n) : Nat) : Int)) (W.setCells g n ((xs.take (Nat.min n (xs.length - n))).map fun y => Value.int .i64 y)) := by
 have hm1 : Nat.min n (xs.length - n) ≤ n := Nat.min_le_left _ _
 have hm2 : Nat.min n (xs.length - n) ≤ xs.length - n := Nat.min_le_right _ _
 have hc := fun (i : Nat) (hi : i < xs.length) => Kd.R_cell (0 : Int) h (i : Int) (by omega) (by omega)
 generalize hm : Nat.min n (xs.length - n) = m at hm1 hm2
 have hl : ((xs.take m).map fun y => Value.int .i64 y).length = m := by rw [List.length_map, List.length_take]; omega
 have q := run_copy_cells (P := P) W T T ty E g n (xs.length - n) c1 ⟨g, 0, none⟩ n c2 ((xs.take m).map fun y => Value.int .i64 y) hu hs (by rw [hl]; exact hm.symm)
  (fun j v hj => by
   rw [List.getElem?_map] at hj
   obtain ⟨x, hx, rfl⟩ := Option.map_eq_some_iff.1 hj
   rw [List.getElem?_take] at hx
   split at hx
   ·have hj' : j < xs.length := by omega
    have := (hc j hj').1
    rw [List.getElem?_eq_getElem hj'] at hx
    obtain rfl := Option.some.inj hx
    rw [Int.toNat_natCast] at this
    have e0 : (Addr.mk g 0 none).add j = ⟨g, j, none⟩ := by
     unfold Addr.add
     by_cases z : j = 0
     ·subst z; rfl
     ·simp [z]
    rw [e0]
    simpa [rdOf, hj'] using this
   ·cases hx)
  (fun j hj => by rw [hl] at hj; have := (hc (n + j) (by omega)).1; rw [Int.toNat_natCast] at this; rw [this]; rfl)
  (fun j hj => by rw [hl] at hj; have := (hc (n + j) (by omega)).2; rwa [Int.toNat_natCast] at this)
  (fun v hv => by obtain ⟨x, _, rfl⟩ := List.mem_map.1 hv; rfl)
 rw [hl] at q
 exact q

theorem below_run {w : World} {g : Nat} (hg : w.heap.size ≤ g) : ∀ (vs : List Value) (o : Nat) {W : World}, Below w.heap.size w W → Below w.heap.size w (W.setCells g o vs)
 | [], _, _, h => h
 | v :: r, o, _, h => below_run hg r (o + 1) (qag h hg)

/-- One number copied to the row's first place. -/
theorem copy_first {P : Program} {e base g cap N : Nat} {ok : Nat → Prop} {W : World} {xs : List Int} (T ty E : TypeId) (hu : P.underlying T = some (.slice E)) (hs : (P.info? E).map (·.size) = some 1)
  (h : (Kd.int .i64).R e W base ok (.slice (some ⟨g, 0, none⟩) N cap) xs) (hN : xs.length = N) (a : Addr) (c : Nat) (x : Int) (ha : W.cell? (a.add 0) = some (.int .i64 x)) (hp : 1 ≤ N) :
  (Builtin.copy_ #[T, T] ty #[.slice (some ⟨g, 0, none⟩) N cap, .slice (some a) 1 c]).run P W = .ok (.int .i64 1) (W.setCells g 0 [.int .i64 x]) := by
 subst hN
 have hc := Kd.R_cell (0 : Int) h 0 (by omega) (by omega)
 have q := run_copy_cells (P := P) W T T ty E g 0 xs.length cap a 1 c [.int .i64 x] hu hs (by show 1 = min 1 xs.length; omega)
  (fun j v hj => by
   cases j with
   | zero => simp at hj; subst hj; exact ha
   | succ j => simp at hj)
  (fun j hj => by
   obtain rfl : j = 0 := by simpa using hj
   have := hc.1
   rw [show ((0 : Int)).toNat = 0 from rfl] at this
   rw [this]; rfl)
  (fun j hj => by
   obtain rfl : j = 0 := by simpa using hj
   exact hc.2)
  (fun v hv => by obtain rfl := List.mem_singleton.1 hv; rfl)
 exact q

/-- What a doubling leaves. -/
theorem twice_row {x : Int} {n N : Nat} (h : n ≤ N) : (List.replicate n x ++ List.replicate (N - n) (0 : Int)).take n ++ (List.replicate n x ++ List.replicate (N - n) 0).take (Nat.min n (N - n)) ++ (List.replicate n x ++ List.replicate (N - n) 0).drop (n + ((List.replicate n x ++ List.replicate (N - n) (0 : Int)).take (Nat.min n (N - n))).length) = List.replicate (n + Nat.min n (N - n)) x ++ List.replicate (N - (n + Nat.min n (N - n))) 0 := by
 have h1 : Nat.min n (N - n) ≤ n := Nat.min_le_left _ _
 have h2 : Nat.min n (N - n) ≤ N - n := Nat.min_le_right _ _
 generalize Nat.min n (N - n) = m at h1 h2
 have e1 : (List.replicate n x ++ List.replicate (N - n) (0 : Int)).take n = List.replicate n x := by rw [List.take_append_of_le_length (by simp)]; simp
 have e2 : (List.replicate n x ++ List.replicate (N - n) (0 : Int)).take m = List.replicate m x := by rw [List.take_append_of_le_length (by simp; omega), List.take_replicate, Nat.min_eq_left h1]
 rw [e1, e2, List.length_replicate, List.drop_append, List.drop_eq_nil_of_le (by simp), List.length_replicate, List.drop_replicate, List.nil_append, List.replicate_append_replicate]
 congr 2; omega

/-- The doubling, as the code runs it. -/
theorem copy_twice {P : Program} {e base g cap N n : Nat} {ok : Nat → Prop} {W : World} {x : Int} (T ty E : TypeId) (hu : P.underlying T = some (.slice E)) (hs : (P.info? E).map (·.size) = some 1)
  (h : (Kd.int .i64).R e W base ok (.slice (some ⟨g, 0, none⟩) N cap) (List.replicate n x ++ List.replicate (N - n) 0)) (hn : n ≤ N) :
  ∃ W2, (Builtin.copy_ #[T, T] ty #[.slice (some ⟨g, n, none⟩) (N - n) (cap - n), .slice (some ⟨g, 0, none⟩) n cap]).run P W = .ok (.int .i64 ((Nat.min n (N - n) : Nat) : Int)) W2 ∧
   (Kd.int .i64).R e W2 base ok (.slice (some ⟨g, 0, none⟩) N cap) (List.replicate (n + Nat.min n (N - n)) x ++ List.replicate (N - (n + Nat.min n (N - n))) 0) ∧ ∃ vs, W2 = W.setCells g n vs := by
 have hl : (List.replicate n x ++ List.replicate (N - n) (0 : Int)).length = N := by simp; omega
 have h' : (Kd.int .i64).R e W base ok (.slice (some ⟨g, 0, none⟩) (List.replicate n x ++ List.replicate (N - n) (0 : Int)).length cap) (List.replicate n x ++ List.replicate (N - n) 0) := by rw [hl]; exact h
 have q := copy_in (xs := List.replicate n x ++ List.replicate (N - n) 0) T ty E hu hs h' n (cap - n) cap (by rw [hl]; exact hn)
 rw [hl] at q
 refine ⟨_, q, ?_, _, rfl⟩
 have r := R_setCells ((List.replicate n x ++ List.replicate (N - n) (0 : Int)).take (Nat.min n (N - n))) n h (by
  have h2 : Nat.min n (N - n) ≤ N - n := Nat.min_le_right _ _
  rw [hl, List.length_take]; omega)
 rw [twice_row hn] at r
 exact r
end Go.Proofs.YtbamgkgcoedliaaDoor.Q
