/- slices.SortFunc with slices.Compare over a row of rows of whole numbers: the row holds the sorted rows. No condition but fewer than 2^62 rows. -/
import Derived.Shelf.SlSortCmp.Whole1
import Derived.Sort.OwnSortedInts
import Derived.Test.YtkmhojpnmebfoaaProg
import Derived.Test.YtkmhojpnmebfoaaShelf
import Derived.Test.YtkmhojpnmebfoaaRowsS
import Derived.Test.YtkmhojpnmebfoaaV1
import Derived.Test.YtkmhojpnmebfoaaV2WGuardMore
namespace Go.Proofs.Ytkmhojpnmebfoaa.Q
open Go.RowKit Go.Proofs.YtkmhojpnmebfoaaW.PrintWords Go.Proofs.YtkmhojpnmebfoaaW.PrintLast Go.Proofs.YtkmhojpnmebfoaaW.PrintMore
set_option linter.unusedVariables false

/-- Which of two lists comes first. -/
def cmpLL : List Int → List Int → Int
  | [], [] => 0
  | [], _ :: _ => -1
  | _ :: _, [] => 1
  | x :: a, y :: b => if x < y then -1 else if y < x then 1 else cmpLL a b
theorem cmpLL_self : ∀ a, cmpLL a a = 0
  | [] => rfl
  | x :: a => by
    unfold cmpLL
    rw [if_neg (by omega), if_neg (by omega)]
    exact cmpLL_self a
theorem cmpLL_neg : ∀ a b, cmpLL b a = - cmpLL a b
  | [], [] => rfl
  | [], _ :: _ => rfl
  | _ :: _, [] => rfl
  | x :: a, y :: b => by
    unfold cmpLL
    by_cases h1 : x < y
    · rw [if_pos h1, if_neg (by omega), if_pos h1]; rfl
    · by_cases h2 : y < x
      · rw [if_pos h2, if_neg h1, if_pos h2]
      · rw [if_neg h2, if_neg h1, if_neg h1, if_neg h2]; exact cmpLL_neg a b
theorem cmpLL_zero : ∀ a b, cmpLL a b = 0 → a = b
  | [], [], _ => rfl
  | [], _ :: _, h => by simp [cmpLL] at h
  | _ :: _, [], h => by simp [cmpLL] at h
  | x :: a, y :: b, h => by
    unfold cmpLL at h
    by_cases h1 : x < y
    · rw [if_pos h1] at h; omega
    · by_cases h2 : y < x
      · rw [if_neg h1, if_pos h2] at h; omega
      · rw [if_neg h1, if_neg h2] at h
        rw [cmpLL_zero a b h, show x = y by omega]
theorem cmpLL_trans : ∀ a b c, cmpLL a b ≤ 0 → cmpLL b c ≤ 0 → cmpLL a c ≤ 0
  | [], _, [], _, _ => by simp [cmpLL]
  | [], _, _ :: _, _, _ => by simp [cmpLL]
  | _ :: _, [], _, h, _ => by simp [cmpLL] at h
  | x :: a, y :: b, [], _, h => by simp [cmpLL] at h
  | x :: a, y :: b, z :: c, h1, h2 => by
    unfold cmpLL at h1 h2 ⊢
    by_cases p1 : x < y
    · by_cases q1 : y < z
      · rw [if_pos (by omega)]; omega
      · by_cases q2 : z < y
        · rw [if_neg q1, if_pos q2] at h2; omega
        · rw [if_pos (by omega)]; omega
    · by_cases p2 : y < x
      · rw [if_neg p1, if_pos p2] at h1; omega
      · rw [if_neg p1, if_neg p2] at h1
        by_cases q1 : y < z
        · rw [if_pos (by omega)]; omega
        · by_cases q2 : z < y
          · rw [if_neg q1, if_pos q2] at h2; omega
          · rw [if_neg q1, if_neg q2] at h2
            rw [if_neg (by omega), if_neg (by omega)]
            exact cmpLL_trans a b c h1 h2
/-- The rows, sorted. -/
def sortLL (l : List (List Int)) : List (List Int) := l.mergeSort fun a b => decide (cmpLL a b ≤ 0)
theorem sortLL_perm (l : List (List Int)) : (sortLL l).Perm l := List.mergeSort_perm _ _
theorem sortLL_pairwise (l : List (List Int)) : (sortLL l).Pairwise (fun a b => cmpLL a b ≤ 0) := by
  have := List.pairwise_mergeSort (le := fun a b : List Int => decide (cmpLL a b ≤ 0)) (fun a b c h1 h2 => by simp only [decide_eq_true_eq] at *; exact cmpLL_trans a b c h1 h2) (fun a b => by have := cmpLL_neg a b; simp only [Bool.or_eq_true, decide_eq_true_eq]; omega) l
  exact this.imp (fun h => by simpa using h)
theorem sortLL_unique {l m : List (List Int)} (h : m.Pairwise (fun a b => cmpLL a b ≤ 0)) (hp : m.Perm l) : m = sortLL l :=
  List.Perm.eq_of_pairwise (le := fun a b : List Int => cmpLL a b ≤ 0) (fun a b _ _ h1 h2 => cmpLL_zero a b (by have := cmpLL_neg a b; omega)) h (sortLL_pairwise l) (hp.trans (sortLL_perm l).symm)

theorem swoLL {n : Nat} (xs : Fin n → List Int) : Go.Sort.SWO (ltOf fun i j : Fin n => cmpLL (xs i) (xs j)) where
  irrefl x := by show decide (cmpLL (xs x) (xs x) < 0) = false; rw [cmpLL_self]; rfl
  trans x y z h1 h2 := by
    unfold ltOf at *
    simp only [decide_eq_true_eq] at *
    have h3 := cmpLL_trans (xs x) (xs y) (xs z) (by omega) (by omega)
    rcases Int.lt_or_eq_of_le h3 with h | h
    · exact h
    · have e := cmpLL_zero _ _ h
      have := cmpLL_neg (xs x) (xs y)
      rw [e] at h1 this
      omega
  ntrans x y z h1 h2 := by
    unfold ltOf at *
    simp only [decide_eq_false_iff_not] at *
    have := cmpLL_neg (xs x) (xs y)
    have := cmpLL_neg (xs y) (xs z)
    have := cmpLL_neg (xs x) (xs z)
    have := cmpLL_trans (xs z) (xs y) (xs x) (by omega) (by omega)
    omega

theorem take_putEnc {α : Type} [Inhabited α] (enc : α → Value) (cur : Array Value) (d : Array α) (h : d.size ≤ cur.size) : (Go.Sort.putCells enc 0 d cur).toList.take d.size = d.toList.map enc := by
  apply List.ext_getElem?
  intro j
  by_cases hj : j < d.size
  · rw [List.getElem?_take_of_lt hj, Array.getElem?_toList]
    simp [Go.Sort.putCells, hj, show j < cur.size by omega]
  · rw [List.getElem?_take_eq_none (by omega), List.getElem?_eq_none (by simp; omega)]

set_option maxHeartbeats 2000000 in
theorem sortRows.calls (base : Nat) (v : Value) (xs : List (List Int)) (w : World) (hx : xs.length < 4611686018427387904) (hbase : base ≤ w.heap.size)
    (hC : ∀ (A0 : Option Addr) (c0 : Nat) (l0 : List Int) (A1 : Option Addr) (c1 : Nat) (l1 : List Int) (W : World), Kd.C (Kd.int .i64) W A0 l0.length l0 → l0.length ≤ c0 → Kd.C (Kd.int .i64) W A1 l1.length l1 → l1.length ≤ c1 →
      Calls Try.prog 38 #[.slice A0 l0.length c0, .slice A1 l1.length c1] W fun e w' => e = .returned (.int .i64 (cmpLL l0 l1)) ∧ ∃ q, w' = W.drewN q)
    (hS : Kd.S (Kd.slice 3 (Kd.int .i64)) 22 w base (fun _ => True) v xs) :
    Calls Try.prog 37 #[v, .func (.func 38) #[] #[]] w fun e w' => e = .returned (.tuple #[]) ∧ Kd.S (Kd.slice 3 (Kd.int .i64)) 22 w' base (fun _ => True) v (sortLL xs) ∧ Below base w w' := by
  obtain ⟨A, c, rfl⟩ := Kd.S_slice hS
  by_cases n0 : xs.length = 0
  · obtain rfl := List.eq_nil_of_length_eq_zero n0
    refine (Try.slices_SortFunc_none (α := Nat) A c (.func (.func 38) #[] #[]) w).mono ?_
    rintro e w' ⟨rfl, rfl⟩
    exact ⟨rfl, by simpa [sortLL] using hS, Below.refl _ _⟩
  · obtain ⟨g, cap, eo, hbg, hlt, _, _⟩ := Kd.S_form hS (by omega)
    injection eo with e1 e2 e3
    subst e1
    subst e3
    obtain ⟨inner, cur, i1, i2, i3, i4, i5, i6, i7⟩ := S_order (d := Kd.slice 3 (Kd.int .i64)) rfl ([] : List Int) hS
    haveI : Inhabited (Fin xs.length) := ⟨⟨0, by omega⟩⟩
    have hgrown : ∀ (m : Nat) (dk : Array (Fin xs.length)) (os : Array Obj), w.grownBy (sortWorld (fun i : Fin xs.length => inner.getD i.val undef) w g 0 m dk os) (some g) := by
      intro m dk os
      refine ⟨rfl, rfl, rfl, by simp [sortWorld], fun k hk hne => ?_⟩
      unfold sortWorld
      rw [Go.Sort.heap_grow_old _ _ (by simpa using hk)]
      have : g ≠ k := fun e => hne (by rw [e])
      simp [Go.Sort.putRow, Go.Sort.mapBlock, Go.Sort.ahead, Array.getElem?_modify, this]
    have hkeep : ∀ (m : Nat) (dk : Array (Fin xs.length)) (os : Array Obj), ∀ k, k ≠ g → k < w.heap.size → (sortWorld (fun i : Fin xs.length => inner.getD i.val undef) w g 0 m dk os).heap[k]? = w.heap[k]? :=
      fun m dk os k hk hl => (hgrown m dk os).block k hl (fun e => hk (Option.some.inj e))
    have hat : ∀ (m : Nat) (dk : Array (Fin xs.length)) (os : Array Obj), (sortWorld (fun i : Fin xs.length => inner.getD i.val undef) w g 0 m dk os).heap[g]? = some (.cells (Go.Sort.putCells (fun i : Fin xs.length => inner.getD i.val undef) 0 dk cur) 22 (0, 0)) := by
      intro m dk os
      unfold sortWorld
      rw [Go.Sort.heap_grow_old _ _ (by simpa using hlt)]
      simp [Go.Sort.putRow, Go.Sort.mapBlock, Go.Sort.ahead, Array.getElem?_modify, i3, Go.Sort.onCells]
    have hd : (Array.ofFn (fun i : Fin xs.length => i)).size = xs.length := by simp
    have hone : OneCell (fun i : Fin xs.length => inner.getD i.val undef) := by
      intro i
      refine i2 _ ?_
      have hi : i.val < inner.length := by rw [i1]; exact i.2
      show inner.getD i.val undef ∈ inner
      rw [List.getD_eq_getElem?_getD, List.getElem?_eq_getElem hi, Option.getD_some]
      exact List.getElem_mem hi
    have hH : Go.Sort.Holds (fun i : Fin xs.length => inner.getD i.val undef) w g 0 (Array.ofFn (fun i : Fin xs.length => i)) := by
      intro j hj
      rw [hd] at hj
      refine ⟨?_, by simp [World.frozen?, i3]⟩
      have h1 : (cur.toList.take xs.length)[j]? = inner[j]? := by rw [i4]
      rw [List.getElem?_take_of_lt hj] at h1
      simp only [World.cell?, i3, Nat.zero_add]
      simp only [Option.isSome_none, Bool.false_eq_true, if_false]
      rw [← Array.getElem?_toList, h1]
      have e : (Array.ofFn (fun i : Fin xs.length => i))[j]! = ⟨j, hj⟩ := by rw [getElem!_pos _ j (by simpa using hj)]; simp
      rw [e, List.getD_eq_getElem?_getD, List.getElem?_eq_getElem (by omega)]
      rfl
    have hcmp : CmpLays1 Try.prog 38 #[] (fun i : Fin xs.length => inner.getD i.val undef) (fun i j : Fin xs.length => cmpLL (xs.getD i.val []) (xs.getD j.val [])) g 0 (Array.ofFn (fun i : Fin xs.length => i)).size w := by
      intro m os dk hs x y
      obtain ⟨Ax, cx, ex, hlx, hCx⟩ := i6 _ (hkeep m dk os) x.val x.2
      obtain ⟨Ay, cy, ey, hly, hCy⟩ := i6 _ (hkeep m dk os) y.val y.2
      injection ex with ex _
      injection ey with ey _
      show Calls Try.prog 38 #[inner.getD x.val undef, inner.getD y.val undef] _ _
      rw [ex, ey]
      refine (hC Ax cx _ Ay cy _ _ hCx hlx hCy hly).mono ?_
      rintro e w' ⟨rfl, q, rfl⟩
      exact ⟨rfl, q, #[], by rw [Go.Sort.grow_empty]⟩
    have hcon := Try.slices_SortFunc (fun i : Fin xs.length => inner.getD i.val undef) hone (fun i j : Fin xs.length => cmpLL (xs.getD i.val []) (xs.getD j.val [])) (swoLL fun i => xs.getD i.val []) 38 #[] g 0 c (Array.ofFn (fun i : Fin xs.length => i)) w (enters_of Try.func38 (by kernel_rfl) rfl) hcmp hH hlt (by rw [hd]; exact hx)
    rw [hd] at hcon
    refine hcon.mono ?_
    rintro e w' ⟨rfl, d', n', os, hp, hs, rfl⟩
    have hds : d'.size = xs.length := by rw [hp.1, hd]
    have hpl : (d'.toList.map Fin.val).Perm (List.range xs.length) := by
      have h1 := hp.2.2
      rw [Array.extract_eq_self_of_le (by omega), Array.extract_eq_self_of_le (by omega)] at h1
      refine (h1.map Fin.val).trans ?_
      rw [Array.toList_ofFn]
      rw [show (List.ofFn fun i : Fin xs.length => i).map Fin.val = List.range xs.length by
        apply List.ext_getElem
        · simp
        · intro j h1 h2; simp]
    have hS' := i7 (d'.toList.map Fin.val) _ _ hpl (hat n' d' os) (by simp [Go.Sort.putCells]) (by
      have := take_putEnc (fun i : Fin xs.length => inner.getD i.val undef) cur d' (by omega)
      rw [hds] at this
      rw [this, List.map_map]
      rfl) (hkeep n' d' os)
    have hy : (d'.toList.map Fin.val).map (xs.getD · []) = sortLL xs := by
      refine sortLL_unique ?_ ?_
      · rw [List.map_map, List.pairwise_map, List.pairwise_iff_getElem]
        intro i j hi hj hij
        rw [Array.length_toList] at hi hj
        have h1 := hs i j (Nat.zero_le _) hij (by omega)
        rw [getElem!_pos _ i hi, getElem!_pos _ j hj] at h1
        unfold ltOf at h1
        simp only [decide_eq_false_iff_not] at h1
        have := cmpLL_neg (xs.getD d'[i].val []) (xs.getD d'[j].val [])
        simp only [Function.comp, Array.getElem_toList]
        omega
      · refine (hpl.map (xs.getD · [])).trans ?_
        rw [show (List.range xs.length).map (xs.getD · []) = xs by
          apply List.ext_getElem
          · simp
          · intro j h1 h2; simp [List.getD_eq_getElem?_getD, h2]]
    rw [hy] at hS'
    exact ⟨rfl, hS', (Below.refl base w).grown (hgrown n' d' os) hbase (fun j hj => by cases hj; exact hbg)⟩
end Go.Proofs.Ytkmhojpnmebfoaa.Q
