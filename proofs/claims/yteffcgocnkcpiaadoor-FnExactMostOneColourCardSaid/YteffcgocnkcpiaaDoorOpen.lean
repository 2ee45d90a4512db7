/- Arguments that are whole numbers, slices of whole numbers, slices of pairs and slices of slices, read out of a row's premise in the form that the printed contracts ask. No condition. -/
import Derived.Test.YteffcgocnkcpiaaDoorQ0
import Derived.Deep.SlicePairs
import Derived.Deep.Matrix
import Derived.Lib.SmallJoins
import Derived.ChangeSlices
import Derived.ChangeArms
namespace Go.Proofs.YteffcgocnkcpiaaDoor.Open
open Go.ChangeShapes Go.WideShapes Go.Deep Go.RowKit Go.Proofs.YteffcgocnkcpiaaDoorW.PrintWords
section
variable {H : Type} {enc : TypeId × Value → H} {P : Program} {w : World} {base : Nat} {spare : Nat → Bool} {held : Bool}

theorem int_C {t : TypeId} {k : IntKind} {n : Nat} {v : Value} {y : DataW H × List MemPlace} (ht : P.underlying t = some (.int k)) (h : DataW.trod enc P w base spare held n t [v] = some y) :
    ∃ x, v = .int k x ∧ (Lit.int k x).wf = true := by
  obtain ⟨x, hcs, _, hw⟩ := DataW.trod_int ht h
  exact ⟨x, by simpa using hcs, hw⟩

theorem ints_C {t e : TypeId} {k : IntKind} {n : Nat} {v : Value} {y : DataW H × List MemPlace} (ht : P.underlying t = some (.slice e)) (he : P.underlying e = some (.int k)) (hc : P.cellsOf e = 1)
    (h : DataW.trod enc P w base spare held n t [v] = some y) :
    ∃ A c xs, v = .slice A xs.length c ∧ xs.length ≤ c ∧ (Kd.int k).C w A xs.length xs ∧ (∀ x ∈ xs, (Lit.int k x).wf = true) := by
  rcases open_ints ht he hc h with ⟨hcs, _⟩ | ⟨x, l, c, zs, hcs, _, hl, hm, hz, _, hcell, hwz⟩
  · exact ⟨none, 0, [], by simpa using hcs, Nat.le_refl _, Kd.C_nil _ _, by simp⟩
  · have e1 : v = .slice (some x) l c := by simpa using hcs
    have hlz : l ≤ zs.length := by rw [hz]; split <;> omega
    have hlen : (zs.take l).length = l := by simp; omega
    refine ⟨some x, c, zs.take l, by rw [hlen]; exact e1, by omega, ⟨rfl, by unfold maxLen at hm; omega, fun hpos => ⟨x, rfl, fun j p hj => ?_⟩⟩, fun z hz => hwz z (List.mem_of_mem_take hz)⟩
    obtain ⟨hj1, hj2⟩ := List.getElem?_eq_some_iff.1 hj
    refine ⟨[.int k p], rfl, rfl, fun i u hu => ?_⟩
    have hi : i = 0 := by
      have := (List.getElem?_eq_some_iff.1 hu).1
      simpa using this
    subst hi
    have hu' : u = .int k p := by simpa using hu.symm
    subst hu'
    have q := hcell j (by omega)
    rw [show j * (Kd.int k).sz + 0 = j from by show j * 1 + 0 = j; omega, q]
    rw [← hj2, List.getElem_take]
    simp [List.getD, show j < zs.length by omega]

theorem pairs_C {S : Type} {f : S → Int × Int} (mk : Int → Int → S) (hmk : ∀ a b, f (mk a b) = (a, b)) {t e : TypeId} {f0 f1 : Field} {k0 k1 : IntKind} {n : Nat} {v : Value} {y : DataW H × List MemPlace} (ht : P.underlying t = some (.slice e)) (he : P.underlying e = some (.struct #[f0, f1]))
    (ce : P.cellsOf e = 2) (o0 : f0.offset = 0) (o1 : f1.offset = 1) (c0 : P.cellsOf f0.type = 1) (c1 : P.cellsOf f1.type = 1) (u0 : P.underlying f0.type = some (.int k0)) (u1 : P.underlying f1.type = some (.int k1))
    (h : DataW.trod enc P w base spare held n t [v] = some y) :
    ∃ A c, ∃ xs : List S, v = .slice A xs.length c ∧ xs.length ≤ c ∧ (Kd.iso (Kd.pair (Kd.int k0) (Kd.int k1)) f).C w A xs.length xs ∧ (∀ x ∈ xs, (Lit.int k0 (f x).1).wf = true ∧ (Lit.int k1 (f x).2).wf = true) := by
  rcases open_slice_pairs ht he ce o0 o1 c0 c1 h with ⟨hcs, _⟩ | ⟨a, len, cap, m, n', V0, V1, D0, D1, P0, P1, hcs, _, hl, hm, hmm, _, hx⟩
  · exact ⟨none, 0, [], by simpa using hcs, Nat.le_refl _, Kd.C_nil _ _, by simp⟩
  · have e1 : v = .slice (some a) len cap := by simpa using hcs
    have hlm : len ≤ m := by rw [hmm]; split <;> omega
    have each : ∀ i, i < len → ∃ q : Int × Int, V0 i = .int k0 q.1 ∧ V1 i = .int k1 q.2 ∧ (Lit.int k0 q.1).wf = true ∧ (Lit.int k1 q.2).wf = true := by
      intro i hi
      obtain ⟨_, _, t0, t1⟩ := hx i (by omega)
      obtain ⟨x, e0, w0⟩ := int_C u0 t0
      obtain ⟨z, e2, w1⟩ := int_C u1 t1
      exact ⟨(x, z), e0, e2, w0, w1⟩
    obtain ⟨q, hq⟩ := choose_lt each
    have hlen : ((List.range len).map fun i => mk (q i).1 (q i).2).length = len := by simp
    refine ⟨some a, cap, (List.range len).map fun i => mk (q i).1 (q i).2, by rw [hlen]; exact e1, by omega, ⟨rfl, by unfold maxLen at hm; omega, fun hpos => ⟨a, rfl, fun j p hj => ?_⟩⟩, fun x hx' => ?_⟩
    · obtain ⟨hj1, hj2⟩ := List.getElem?_eq_some_iff.1 hj
      have hjl : j < len := by omega
      have hp : p = mk (q j).1 (q j).2 := by rw [← hj2]; simp
      obtain ⟨g0, g1, _, _⟩ := hx j (by omega)
      obtain ⟨b0, b1, _, _⟩ := hq j hjl
      rw [b0] at g0
      rw [b1] at g1
      refine ⟨[.int k0 (q j).1, .int k1 (q j).2], rfl, ⟨[.int k0 (q j).1], [.int k1 (q j).2], rfl, ?_, ?_⟩, fun i u hu => ?_⟩
      · rw [hp, hmk]; rfl
      · rw [hp, hmk]; rfl
      · have hi := (List.getElem?_eq_some_iff.1 hu).1
        simp only [List.length_cons, List.length_nil] at hi
        have hsz : (Kd.iso (Kd.pair (Kd.int k0) (Kd.int k1)) f).sz = 2 := rfl
        rw [hsz]
        match i, hi with
        | 0, _ =>
          have hu' : u = .int k0 (q j).1 := by simpa using hu.symm
          rw [hu']; exact g0
        | 1, _ =>
          have hu' : u = .int k1 (q j).2 := by simpa using hu.symm
          rw [hu']; exact g1
    · obtain ⟨i, hi, rfl⟩ := List.mem_map.1 hx'
      obtain ⟨_, _, w0, w1⟩ := hq i (by simpa using hi)
      rw [hmk]
      exact ⟨w0, w1⟩
end
section
variable {H : Type} {enc : TypeId × Value → H} {P : Program} {w : World} {base : Nat} {held : Bool}
theorem rows_C {t e q : TypeId} {k : IntKind} {n : Nat} {v : Value} {y : DataW H × List MemPlace} (ht : P.underlying t = some (.slice e)) (he : P.underlying e = some (.slice q)) (hq : P.underlying q = some (.int k))
    (ce : P.cellsOf e = 1) (cq : P.cellsOf q = 1) (h : DataW.trod enc P w base (fun _ => true) held n t [v] = some y) :
    ∃ A c, ∃ xs : List (List Int), v = .slice A xs.length c ∧ xs.length ≤ c ∧ (Kd.slice q (Kd.int k)).C w A xs.length xs ∧ (∀ x ∈ xs, x.length ≤ 9223372036854775807 ∧ ∀ z ∈ x, (Lit.int k z).wf = true) := by
  rcases open_int_rows ht he hq ce cq h with ⟨hcs, _⟩ | ⟨a, len, cap, A, L, C, Z, hcs, _, hl, hm, _, hx⟩
  · exact ⟨none, 0, [], by simpa using hcs, Nat.le_refl _, Kd.C_nil _ _, by simp⟩
  · have e1 : v = .slice (some a) len cap := by simpa using hcs
    have hlen : ((List.range len).map fun i => (Z i).take (L i)).length = len := by simp
    have hLZ : ∀ i, i < len → ((Z i).take (L i)).length = L i ∧ L i ≤ maxLen := by
      intro i hi
      obtain ⟨_, h1, h2, h3, _⟩ := hx i (by omega)
      refine ⟨by simp; omega, by omega⟩
    refine ⟨some a, cap, (List.range len).map fun i => (Z i).take (L i), by rw [hlen]; exact e1, by omega, ⟨rfl, by unfold maxLen at hm; omega, fun hpos => ⟨a, rfl, fun j p hj => ?_⟩⟩, fun x hx' => ?_⟩
    · obtain ⟨hj1, hj2⟩ := List.getElem?_eq_some_iff.1 hj
      have hjl : j < len := by omega
      have hp : p = (Z j).take (L j) := by rw [← hj2]; simp
      obtain ⟨g0, h1, h2, h3, h4, h5, h6⟩ := hx j (by omega)
      obtain ⟨k1, k2⟩ := hLZ j hjl
      have hpl : p.length = L j := by rw [hp]; exact k1
      refine ⟨[.slice (A j) (L j) (C j)], rfl, ⟨A j, C j, by rw [hpl], by omega, ⟨rfl, by unfold maxLen at k2; omega, fun hpos => ?_⟩⟩, fun i u hu => ?_⟩
      · cases hA : A j with
        | none =>
          have := h5 hA
          omega
        | some a' =>
          obtain ⟨_, hc⟩ := h6 a' hA
          refine ⟨a', rfl, fun i z hi => ?_⟩
          obtain ⟨hi1, hi2⟩ := List.getElem?_eq_some_iff.1 hi
          refine ⟨[.int k z], rfl, rfl, fun i2 u hu => ?_⟩
          have hi0 : i2 = 0 := by
            have := (List.getElem?_eq_some_iff.1 hu).1
            simpa using this
          subst hi0
          have hu' : u = .int k z := by simpa using hu.symm
          subst hu'
          have qq := hc i (by omega)
          rw [show i * (Kd.int k).sz + 0 = i from by show i * 1 + 0 = i; omega, qq]
          have hz : z = (Z j)[i]'(by omega) := by
            rw [← hi2]
            simp [hp]
          rw [hz]
          simp [List.getD, show i < (Z j).length by omega]
      · have hi0 : i = 0 := by
          have := (List.getElem?_eq_some_iff.1 hu).1
          simpa using this
        subst hi0
        have hu' : u = .slice (A j) (L j) (C j) := by simpa using hu.symm
        subst hu'
        have hsz : (Kd.slice q (Kd.int k)).sz = 1 := rfl
        rw [hsz, show j * 1 + 0 = j by omega]
        exact g0
    · obtain ⟨i, hi, rfl⟩ := List.mem_map.1 hx'
      have hil : i < len := by simpa using hi
      obtain ⟨_, _, _, _, h4, _⟩ := hx i (by omega)
      obtain ⟨k1, k2⟩ := hLZ i hil
      exact ⟨by unfold maxLen at k2; omega, fun z hz => h4 z (List.mem_of_mem_take hz)⟩
end
end Go.Proofs.YteffcgocnkcpiaaDoor.Open
