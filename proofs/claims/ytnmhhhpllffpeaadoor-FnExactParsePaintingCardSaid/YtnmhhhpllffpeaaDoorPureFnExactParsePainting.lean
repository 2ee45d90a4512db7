import Derived.Test.YtnmhhhpllffpeaaDoorQ0
import Derived.Test.YtnmhhhpllffpeaaDoorQ5
import Derived.Test.YtnmhhhpllffpeaaDoorQ6
import Derived.Test.YtnmhhhpllffpeaaDoorQ10
import Derived.Test.YtnmhhhpllffpeaaDoorQ13
import Derived.Test.YtnmhhhpllffpeaaDoorQ15
import Derived.Test.YtnmhhhpllffpeaaDoorQ17
import Derived.Test.YtnmhhhpllffpeaaDoorQ18
/- Plain lemmas over rounds, lists and whole numbers, for the pure statements of this seat. No condition. -/
namespace Go.Proofs.YtnmhhhpllffpeaaDoor.Plain
open Go.RowKit Go.Proofs.YtnmhhhpllffpeaaDoorW.PrintWords Go.Proofs.YtnmhhhpllffpeaaDoorW.PrintLast
set_option linter.unusedVariables false

theorem wrap_id {x : Int} (h0 : -9223372036854775808 ≤ x) (h1 : x ≤ 9223372036854775807) : wrap64 x = x := by
  unfold wrap64
  omega

theorem rd_at {l : List Int} {i : Nat} (h : i < l.length) : rd l (i : Int) = l[i] := by
  simp [rd, List.getD, h]

theorem ev_some {α : Type} {g : Nat → Option α} {r : α} (h : ∀ k, g k = some r) : Ev g r := ⟨0, fun k _ => h k⟩

theorem ev_bind0 {α β : Type} {g : Option α} {f : Nat → α → Option β} {a : α} {r : β} (h : g = some a) (k : Ev (fun n => f n a) r) : Ev (fun n => g.bind (f n)) r := by
  obtain ⟨K, hK⟩ := k
  refine ⟨K, fun n hn => ?_⟩
  show g.bind (f n) = some r
  rw [h]
  exact hK n hn

theorem ev_if {α : Type} {c : Prop} [Decidable c] {f g : Nat → Option α} {r : α} (hf : c → Ev f r) (hg : ¬ c → Ev g r) : Ev (fun n => if c then f n else g n) r := by
  by_cases h : c
  · obtain ⟨K, hK⟩ := hf h
    exact ⟨K, fun n hn => (if_pos h).trans (hK n hn)⟩
  · obtain ⟨K, hK⟩ := hg h
    exact ⟨K, fun n hn => (if_neg h).trans (hK n hn)⟩

/-- A loop over an index, from any index on, in one shape. -/
theorem ev_up {α : Type} {n : Nat} {loop : Nat → Nat → Option α} {r : Nat → α} (hend : Ev (fun k => loop k n) (r n)) (hstep : ∀ i, i < n → (Ev (fun k => loop k (i + 1)) (r (i + 1)) → Ev (fun k => loop k i) (r i))) :
    ∀ i, i ≤ n → Ev (fun k => loop k i) (r i) := by
  intro i hi
  have : ∀ d i, i ≤ n → n - i = d → Ev (fun k => loop k i) (r i) := by
    intro d
    induction d with
    | zero =>
      intro i hi hd
      have e : i = n := by omega
      rw [e]; exact hend
    | succ d ih =>
      intro i hi hd
      exact hstep i (by omega) (ih (i + 1) (by omega) (by omega))
  exact this (n - i) i hi rfl
theorem succ_cast {i n : Nat} (h : i < n) (hn : n ≤ 9223372036854775807) : wrap64 ((i : Int) + 1) = ((i + 1 : Nat) : Int) := by
  rw [wrap_id (by omega) (by omega)]; rfl
end Go.Proofs.YtnmhhhpllffpeaaDoor.Plain

/- The law's own functions over lists of whole numbers: copies, equality, bounds. No condition but lengths that fit. -/
namespace Go.Proofs.YtnmhhhpllffpeaaDoor.Plain
open Go.RowKit Go.Proofs.YtnmhhhpllffpeaaDoorW.PrintWords Go.Proofs.YtnmhhhpllffpeaaDoorW.PrintLast
set_option linter.unusedVariables false
open Q

theorem eqIntS_ev (l : List Int) (h : l.length ≤ 9223372036854775807) : Ev (fun k => laws_eqIntS.f k l l) true := by
  refine Ev.congr (f := fun k => laws_eqIntS.l0 k l l 0) (fun k => ?_) ?_
  · unfold laws_eqIntS.f
    rw [if_pos rfl]
  · exact ev_up (n := l.length) (loop := fun k i => laws_eqIntS.l0 k l l (i : Int)) (r := fun _ => true)
      (Ev.step (f := fun _ => some true) (fun k => by simp [laws_eqIntS.l0]) (Ev.now true))
      (fun i hi ih => Ev.step (f := fun k => laws_eqIntS.l0 k l l ((i + 1 : Nat) : Int)) (fun k => by
        simp only [laws_eqIntS.l0]
        rw [if_pos (by omega), if_pos (by omega), if_pos (by omega), if_pos trivial, succ_cast hi h]) ih) 0 (Nat.zero_le _)

theorem l1In_eq (a b c : Int) : spec_l1In.f a b c = some (decide (b ≤ a) && decide (a ≤ c)) := by
  unfold spec_l1In.f
  by_cases h : b ≤ a <;> simp [h]

theorem within_eq (a b c : Int) : impl_within.f a b c = some (decide (b ≤ a) && decide (a ≤ c)) := by
  unfold impl_within.f
  by_cases h : b ≤ a <;> simp [h]

theorem l1All_ev (l : List Int) (lo hi : Int) (h : l.length ≤ 9223372036854775807) : Ev (fun k => spec_l1All.f k l lo hi) (l.all fun x => decide (lo ≤ x) && decide (x ≤ hi)) := by
  have q := ev_up (n := l.length) (loop := fun k i => spec_l1All.l0 k lo hi l (l.length : Int) (i : Int)) (r := fun i => (l.drop i).all fun x => decide (lo ≤ x) && decide (x ≤ hi))
    (Ev.step (f := fun _ => some true) (fun k => by simp [spec_l1All.l0]) (by simpa using Ev.now true))
    (fun i hi' ih => by
      have e : (l.drop i).all (fun x => decide (lo ≤ x) && decide (x ≤ hi)) = ((decide (lo ≤ l[i]) && decide (l[i] ≤ hi)) && (l.drop (i + 1)).all fun x => decide (lo ≤ x) && decide (x ≤ hi)) := by
        rw [List.drop_eq_getElem_cons hi', List.all_cons]
      rw [e]
      cases hb : (decide (lo ≤ l[i]) && decide (l[i] ≤ hi)) with
      | true =>
        refine Ev.step (f := fun k => spec_l1All.l0 k lo hi l (l.length : Int) ((i + 1 : Nat) : Int)) (fun k => ?_) (by simpa using ih)
        simp only [spec_l1All.l0]
        rw [if_pos (by omega), if_pos (by omega), if_pos (by omega), l1In_eq, rd_at hi', hb, Option.bind_some, if_pos rfl, succ_cast hi' h]
      | false =>
        refine Ev.step (f := fun _ => some false) (fun k => ?_) (by simpa using Ev.now false)
        simp only [spec_l1All.l0]
        rw [if_pos (by omega), if_pos (by omega), if_pos (by omega), l1In_eq, rd_at hi', hb, Option.bind_some, if_neg (by simp)]) 0 (Nat.zero_le _)
  simpa [spec_l1All.f] using q

end Go.Proofs.YtnmhhhpllffpeaaDoor.Plain

/- Paintings: both sides' tests, and the law's own functions over paintings. No condition but lengths that fit. -/
namespace Go.Proofs.YtnmhhhpllffpeaaDoor.Plain
open Go.RowKit Go.Proofs.YtnmhhhpllffpeaaDoorW.PrintWords Go.Proofs.YtnmhhhpllffpeaaDoorW.PrintLast
set_option linter.unusedVariables false
open Q

/-- A painting: so many people, so many colours, a colour for each pair. -/
def painted (n c : Int) (l : List Int) : Bool := (decide (0 ≤ n) && decide (n ≤ 8)) && ((decide (1 ≤ c) && decide (c ≤ 3)) && (decide ((l.length : Int) = n * (n - 1) / 2) && l.all fun x => decide (0 ≤ x) && decide (x ≤ c - 1)))

theorem eqPainting_ev (n c : Int) (l : List Int) (h : l.length ≤ 9223372036854775807) : Ev (fun k => laws_eqPainting.f k n c l n c l) true := by
  refine Ev.congr (f := fun k => (laws_eqIntS.f k l l).bind fun t => if t = true then some true else some false) (fun k => ?_) ?_
  · unfold laws_eqPainting.f
    rw [if_pos rfl, if_pos rfl]
  · exact Ev.bind (f := fun _ t => if t = true then some true else some false) (eqIntS_ev l h) (ev_some (fun _ => rfl))

theorem pairs_of {n : Int} (h0 : 0 ≤ n) (h1 : n ≤ 8) : wrap64 (Int.tdiv (wrap64 (n * (wrap64 (n - 1)))) 2) = n * (n - 1) / 2 := by
  have : n = 0 ∨ n = 1 ∨ n = 2 ∨ n = 3 ∨ n = 4 ∨ n = 5 ∨ n = 6 ∨ n = 7 ∨ n = 8 := by omega
  rcases this with rfl | rfl | rfl | rfl | rfl | rfl | rfl | rfl | rfl <;> decide +kernel

theorem choose_two {n : Int} (h0 : 0 ≤ n) (h1 : n ≤ 8) : Ev (fun k => impl_choose.f k n 2) (n * (n - 1) / 2) := by
  refine Ev.of (fun k => impl_choose.mono n 2 k) (k := 10) ?_
  have : n = 0 ∨ n = 1 ∨ n = 2 ∨ n = 3 ∨ n = 4 ∨ n = 5 ∨ n = 6 ∨ n = 7 ∨ n = 8 := by omega
  rcases this with rfl | rfl | rfl | rfl | rfl | rfl | rfl | rfl | rfl <;> decide +kernel

theorem ptGood_ev (n c : Int) (l : List Int) (h : l.length ≤ 9223372036854775807) : Ev (fun k => spec_ptGood.f k n c l) (painted n c l) := by
  unfold spec_ptGood.f
  refine ev_bind0 (l1In_eq _ _ _) ?_
  refine ev_if (fun b1 => ?_) (fun b1 => ?_)
  · refine ev_bind0 (l1In_eq _ _ _) ?_
    refine ev_if (fun b2 => ?_) (fun b2 => ?_)
    · have c1 : 0 ≤ n ∧ n ≤ 8 := by simpa using b1
      have c2 : 1 ≤ c ∧ c ≤ 3 := by simpa using b2
      rw [pairs_of c1.1 c1.2, wrap_id (x := c - 1) (by omega) (by omega)]
      refine ev_if (fun b3 => ?_) (fun b3 => ?_)
      · have e : painted n c l = l.all fun x => decide (0 ≤ x) && decide (x ≤ c - 1) := by
          unfold painted
          rw [b1, b2, decide_eq_true b3]; simp
        rw [e]
        exact Ev.bind (f := fun _ t => some t) (l1All_ev l _ _ h) (Ev.now _)
      · have e : painted n c l = false := by
          unfold painted
          rw [decide_eq_false b3]; simp
        rw [e]; exact Ev.now _
    · have e : painted n c l = false := by
        unfold painted
        rw [Bool.eq_false_iff.mpr b2]; simp
      rw [e]; exact Ev.now _
  · have e : painted n c l = false := by
      unfold painted
      rw [Bool.eq_false_iff.mpr b1]; simp
    rw [e]; exact Ev.now _

theorem isPainting_ev (n c : Int) (l : List Int) (h : l.length ≤ 9223372036854775807) : Ev (fun k => impl_IsPainting.f k n c l) (painted n c l) := by
  unfold impl_IsPainting.f
  have hp : impl_isPainted.f n c = some ((decide (0 ≤ n) && decide (n ≤ 8)) && (decide (1 ≤ c) && decide (c ≤ 3))) := by
    unfold impl_isPainted.f
    rw [within_eq, within_eq, Option.bind_some]
    cases (decide (0 ≤ n) && decide (n ≤ 8)) <;> simp
  refine ev_bind0 hp ?_
  refine ev_if (fun b1 => ?_) (fun b1 => ?_)
  · have c1 : (0 ≤ n ∧ n ≤ 8) ∧ (1 ≤ c ∧ c ≤ 3) := by simpa using b1
    refine Ev.bind (choose_two c1.1.1 c1.1.2) ?_
    rw [wrap_id (x := c - 1) (by omega) (by omega)]
    refine ev_if (fun b3 => ?_) (fun b3 => ?_)
    · have e : painted n c l = l.all fun x => decide (0 ≤ x) && decide (x ≤ c - 1) := by
        unfold painted
        rw [← Bool.and_assoc, b1, decide_eq_true b3]; simp
      rw [e]
      exact ev_some (fun _ => rfl)
    · have e : painted n c l = false := by
        unfold painted
        rw [decide_eq_false b3]; simp
      rw [e]; exact Ev.now _
  · have e : painted n c l = false := by
      unfold painted
      rw [← Bool.and_assoc, Bool.eq_false_iff.mpr b1]; simp
    rw [e]; exact Ev.now _
end Go.Proofs.YtnmhhhpllffpeaaDoor.Plain

/- The place of a pair among the pairs of a painting, and its colour, on both sides. No condition but lengths that fit. -/
namespace Go.Proofs.YtnmhhhpllffpeaaDoor.Plain
open Go.RowKit Go.Proofs.YtnmhhhpllffpeaaDoorW.PrintWords Go.Proofs.YtnmhhhpllffpeaaDoorW.PrintLast
set_option linter.unusedVariables false
open Q

theorem painted_of {n c : Int} {l : List Int} (h : painted n c l = true) : 0 ≤ n ∧ n ≤ 8 ∧ 1 ≤ c ∧ c ≤ 3 ∧ (l.length : Int) = n * (n - 1) / 2 ∧ ∀ x ∈ l, 0 ≤ x ∧ x ≤ c - 1 := by
  unfold painted at h
  simp only [Bool.and_eq_true, decide_eq_true_eq, List.all_eq_true] at h
  obtain ⟨⟨h1, h2⟩, ⟨h3, h4⟩, h5, h6⟩ := h
  exact ⟨h1, h2, h3, h4, h5, h6⟩

end Go.Proofs.YtnmhhhpllffpeaaDoor.Plain

/- Parties: both sides' tests, and the law's own functions over parties. No condition but lengths that fit. -/
namespace Go.Proofs.YtnmhhhpllffpeaaDoor.Plain
open Go.RowKit Go.Proofs.YtnmhhhpllffpeaaDoorW.PrintWords Go.Proofs.YtnmhhhpllffpeaaDoorW.PrintLast
set_option linter.unusedVariables false
open Q

/-! What a party is, in words of numbers. -/
end Go.Proofs.YtnmhhhpllffpeaaDoor.Plain

/- The laws' marks: written into a list and found again. No condition but a length that fits. -/
namespace Go.Proofs.YtnmhhhpllffpeaaDoor.Plain
open Go.RowKit Go.Proofs.YtnmhhhpllffpeaaDoorW.PrintWords Go.Proofs.YtnmhhhpllffpeaaDoorW.PrintLast
set_option linter.unusedVariables false
open Q

/-- The marks of n numbers from v on. -/
def marksI (v : Int) (n : Nat) : List Int := (List.range n).map fun i : Nat => v + (i : Int)
theorem marksI_length (v : Int) (n : Nat) : (marksI v n).length = n := by simp [marksI]
theorem marksI_get {v : Int} {n i : Nat} (h : i < (marksI v n).length) : (marksI v n)[i] = v + (i : Int) := by simp [marksI]

theorem marksI_step (v : Int) (l : List Int) {i : Nat} (hi : i < l.length) : (marksI v i ++ l.drop i).set i (v + (i : Int)) = marksI v (i + 1) ++ l.drop (i + 1) := by
  apply List.ext_getElem
  · simp [marksI_length]; omega
  · intro j h1 h2
    rw [List.getElem_set]
    by_cases e : i = j
    · subst e
      rw [if_pos rfl, List.getElem_append_left (by rw [marksI_length]; omega), marksI_get]
    · rw [if_neg e]
      by_cases c : j < i
      · rw [List.getElem_append_left (by rw [marksI_length]; omega), List.getElem_append_left (by rw [marksI_length]; omega), marksI_get, marksI_get]
      · rw [List.getElem_append_right (by rw [marksI_length]; omega), List.getElem_append_right (by rw [marksI_length]; omega), List.getElem_drop, List.getElem_drop]
        congr 1
        rw [marksI_length, marksI_length]
        omega

theorem markIntS_ev (l : List Int) (v : Int) (h : l.length ≤ 1152921504606846976) (h0 : 0 ≤ v) (h1 : v ≤ 1152921504606846976) : Ev (fun k => laws_markIntS.f k l v) (v + (l.length : Int), marksI v l.length) := by
  have q := ev_up (n := l.length) (loop := fun k i => laws_markIntS.l0 k (marksI v i ++ l.drop i) (v + (i : Int)) (i : Int)) (r := fun _ => (v + (l.length : Int), marksI v l.length))
    (by
      refine Ev.step (f := fun _ => some (v + (l.length : Int), marksI v l.length)) (fun k => ?_) (Ev.now _)
      simp only [laws_markIntS.l0]
      rw [List.drop_length, List.append_nil, if_neg (by rw [marksI_length]; omega)])
    (fun i hi ih => by
      have hlen : (marksI v i ++ l.drop i).length = l.length := by rw [List.length_append, marksI_length, List.length_drop]; omega
      have w1 : wrap64 (v + (i : Int) + 1) = v + ((i + 1 : Nat) : Int) := by rw [wrap_id (by omega) (by omega)]; omega
      refine Ev.step (f := fun k => laws_markIntS.l0 k (marksI v (i + 1) ++ l.drop (i + 1)) (v + ((i + 1 : Nat) : Int)) ((i + 1 : Nat) : Int)) (fun k => ?_) ih
      simp only [laws_markIntS.l0]
      rw [if_pos (by rw [hlen]; omega), if_pos (by omega), w1, succ_cast hi (by omega), Int.toNat_natCast, marksI_step v l hi]) 0 (Nat.zero_le _)
  have e : marksI v 0 ++ l.drop 0 = l := by simp [marksI]
  rw [e] at q
  simpa [laws_markIntS.f] using q

theorem heldIntS_ev (n : Nat) (v : Int) (h : n ≤ 1152921504606846976) (h0 : 0 ≤ v) (h1 : v ≤ 1152921504606846976) : Ev (fun k => laws_heldIntS.f k (marksI v n) v) (v + (n : Int)) := by
  have hl := marksI_length v n
  have q := ev_up (n := n) (loop := fun k i => laws_heldIntS.l0 k (marksI v n) (v + (i : Int)) (i : Int)) (r := fun _ => v + (n : Int))
    (Ev.step (f := fun _ => some (v + (n : Int))) (fun k => by simp only [laws_heldIntS.l0]; rw [if_neg (by rw [hl]; omega)]) (Ev.now _))
    (fun i hi ih => by
      have w1 : wrap64 (v + (i : Int) + 1) = v + ((i + 1 : Nat) : Int) := by rw [wrap_id (by omega) (by omega)]; omega
      refine Ev.step (f := fun k => laws_heldIntS.l0 k (marksI v n) (v + ((i + 1 : Nat) : Int)) ((i + 1 : Nat) : Int)) (fun k => ?_) ih
      simp only [laws_heldIntS.l0]
      rw [if_pos (by rw [hl]; omega), if_pos (by omega), rd_at (by rw [hl]; exact hi), marksI_get, if_pos rfl, w1, succ_cast hi (by omega)]) 0 (Nat.zero_le _)
  simpa [laws_heldIntS.f] using q

theorem markPainting_ev (n c : Int) (l : List Int) (h : l.length ≤ 1152921504606846976) : Ev (fun k => laws_markPainting.f k n c l 1) (1 + (l.length : Int), marksI 1 l.length) := by
  unfold laws_markPainting.f
  exact Ev.bind (f := fun _ bt => some (bt.1, bt.2)) (markIntS_ev l 1 h (by omega) (by omega)) (Ev.now _)

theorem heldPainting_ev (n c : Int) (m : Nat) (h : m ≤ 1152921504606846976) : Ev (fun k => laws_heldPainting.f k n c (marksI 1 m) 1) (1 + (m : Int)) := by
  unfold laws_heldPainting.f
  refine Ev.bind (heldIntS_ev m 1 h (by omega) (by omega)) ?_
  exact ev_if (fun q => by omega) (fun _ => Ev.now _)

end Go.Proofs.YtnmhhhpllffpeaaDoor.Plain

/- The text of a painting, read on both sides. No condition but lengths that fit. -/
-- over spec_ptParse.f impl_ParsePainting.f impl_number.v piecesOf numsOf atoiV
namespace Go.Proofs.YtnmhhhpllffpeaaDoor.Plain
open Go.RowKit Go.Proofs.YtnmhhhpllffpeaaDoorW.PrintWords Go.Proofs.YtnmhhhpllffpeaaDoorW.PrintLast
set_option linter.unusedVariables false
open Q Go

theorem bt_nums {s : ByteArray} {i : Nat} (h : i < s.size) : bt s (i : Int) = rd (numsOf s) (i : Int) := by
  have hl : i < (numsOf s).length := by rw [numsOf_length]; exact h
  rw [rd_at hl]
  unfold bt
  rw [dif_pos (by rw [Int.toNat_natCast]; exact h)]
  simp only [Int.toNat_natCast, numsOf, List.getElem_map]
  rfl
theorem splitK_ne (c : UInt8) (k : Nat) (l : List UInt8) : Lib.splitK [c] 0 k l ≠ [] := by
  cases k with
  | zero => simp [Lib.splitK]
  | succ k =>
    unfold Lib.splitK
    split <;> simp
theorem splitK_step (c : UInt8) (k : Nat) (l q : List UInt8) (r : List (List UInt8)) (h : Lib.splitK [c] 0 k l = q :: r) : (r = [] ∧ q = l) ∨ ∃ k' rest, l = q ++ c :: rest ∧ r = Lib.splitK [c] 0 k' rest := by
  cases k with
  | zero =>
    simp only [Lib.splitK, List.cons.injEq] at h
    exact Or.inl ⟨h.2.symm, h.1.symm⟩
  | succ k =>
    unfold Lib.splitK at h
    rcases Lib.index_spec l [c] with ⟨hi, _⟩ | ⟨i, hi, hil, hocc, _⟩
    · rw [if_pos (by rw [hi]; rfl)] at h
      simp only [List.cons.injEq] at h
      exact Or.inl ⟨h.2.symm, h.1.symm⟩
    · have hne : ¬ (Lib.index l [c] == -1) = true := by
        rw [hi, beq_iff_eq]; omega
      rw [if_neg hne, hi, Int.toNat_natCast] at h
      simp only [List.cons.injEq, Nat.add_zero, List.length_singleton] at h
      have hc := Lib.occAt_head (s := l) (sub := [c]) rfl hocc
      obtain ⟨hlt, hg⟩ := List.getElem?_eq_some_iff.1 hc
      refine Or.inr ⟨k, l.drop (i + 1), ?_, h.2.symm⟩
      rw [← h.1, ← hg, ← List.drop_eq_getElem_cons hlt, List.take_append_drop]
theorem splitK_three (c : UInt8) {k : Nat} {l q0 q1 q2 : List UInt8} (h : Lib.splitK [c] 0 k l = [q0, q1, q2]) : l = q0 ++ c :: (q1 ++ c :: q2) := by
  rcases splitK_step c k l q0 _ h with ⟨h1, _⟩ | ⟨k1, r1, e1, h1⟩
  · cases h1
  · rcases splitK_step c k1 r1 q1 _ h1.symm with ⟨h2, _⟩ | ⟨k2, r2, e2, h2⟩
    · cases h2
    · rcases splitK_step c k2 r2 q2 _ h2.symm with ⟨_, h3⟩ | ⟨k3, r3, e3, h3⟩
      · rw [e1, e2, h3]
      · exact absurd h3.symm (splitK_ne c k3 r3)
theorem index_second {a c : UInt8} (h : a ≠ c) (l : List UInt8) : Lib.index (a :: c :: l) [c] = 1 := by
  have h2 : ¬ c = a := fun e => h e.symm
  simp [Lib.index, List.isPrefixOf, h2]
theorem splitK_good (c a b : UInt8) (t : List UInt8) (ha : a ≠ c) (hb : b ≠ c) : Lib.splitK [c] 0 2 (a :: c :: b :: c :: t) = [[a], [b], t] := by
  simp only [Lib.splitK, index_second ha]
  rw [if_neg (by decide)]
  show [a] :: (if (Lib.index (b :: c :: t) [c] == -1) = true then [b :: c :: t] else (b :: c :: t).take ((Lib.index (b :: c :: t) [c]).toNat + 0) :: [(b :: c :: t).drop ((Lib.index (b :: c :: t) [c]).toNat + [c].length)]) = [[a], [b], t]
  rw [index_second hb, if_neg (by decide)]
  rfl
theorem pieces_lists (s : ByteArray) : (piecesOf s).map (·.data.toList) = Lib.splitK [58] 0 (Lib.count s.data.toList [58]) s.data.toList := by
  unfold piecesOf
  rw [Lib.splitB_data]
theorem pieces_three {s p0 p1 p2 : ByteArray} (h : piecesOf s = [p0, p1, p2]) : s.data.toList = p0.data.toList ++ 58 :: (p1.data.toList ++ 58 :: p2.data.toList) := by
  have e := pieces_lists s
  rw [h] at e
  exact splitK_three 58 e.symm
theorem pieces_good {s : ByteArray} {a b : UInt8} {t : List UInt8} (h : s.data.toList = a :: 58 :: b :: 58 :: t) (ha : a ≠ 58) (hb : b ≠ 58) (ht : 58 ∉ t) : ∃ p0 p1 p2, piecesOf s = [p0, p1, p2] ∧ p0.data.toList = [a] ∧ p1.data.toList = [b] ∧ p2.data.toList = t := by
  have e := pieces_lists s
  have hc : Lib.count s.data.toList [58] = 2 := by
    rw [Lib.count_one, h]
    have h0 : List.count 58 t = 0 := List.count_eq_zero.2 ht
    simp [h0, ha, hb]
  rw [hc, h, splitK_good 58 a b t ha hb] at e
  have hl : (piecesOf s).length = 3 := by
    have := congrArg List.length e
    simpa using this
  obtain ⟨p0, p1, p2, hp⟩ := impl_ParsePainting.three hl
  rw [hp] at e
  simp only [List.map_cons, List.map_nil, List.cons.injEq, and_true] at e
  exact ⟨p0, p1, p2, hp, e.1, e.2.1, e.2.2⟩
theorem atoi_digit : ∀ d : Fin 10, Lib.atoiAll [UInt8.ofNat (48 + d.val)] = .ok (d.val : Int) := by decide +kernel
theorem itoa_digit : ∀ d : Fin 10, Lib.itoa (d.val : Int) = [UInt8.ofNat (48 + d.val)] := by decide +kernel
theorem bytes_of {p : ByteArray} {l : List UInt8} (h : p.data.toList = l) : (⟨l.toArray⟩ : ByteArray) = p := by
  subst h
  cases p
  simp
theorem number_good {p : ByteArray} {d : Nat} (hd : d < 10) (hp : p.data.toList = [UInt8.ofNat (48 + d)]) {most : Int} (hm : (d : Int) ≤ most) : impl_number.v p most = ((d : Int), true) := by
  have ha := atoi_digit ⟨d, hd⟩
  have hi := itoa_digit ⟨d, hd⟩
  simp only at ha hi
  have hv : atoiV p = ((d : Int), true) := by
    unfold atoiV
    rw [hp, ha]
  unfold impl_number.v
  rw [hv]
  exact if_pos ⟨rfl, by rw [hi]; exact bytes_of hp, Int.natCast_nonneg _, hm⟩
theorem number_true {p : ByteArray} {most : Int} (h : (impl_number.v p most).2 = true) : 0 ≤ (impl_number.v p most).1 ∧ (impl_number.v p most).1 ≤ most ∧ p.data.toList = Lib.itoa (impl_number.v p most).1 := by
  unfold impl_number.v at h ⊢
  by_cases c : (atoiV p).2 = true ∧ (⟨(Lib.itoa (atoiV p).1).toArray⟩ : ByteArray) = p ∧ (0 ≤ (atoiV p).1 ∧ (atoiV p).1 ≤ most)
  · rw [if_pos c]
    refine ⟨c.2.2.1, c.2.2.2, ?_⟩
    have := congrArg (fun x : ByteArray => x.data.toList) c.2.1
    simpa using this.symm
  · rw [if_neg c] at h; cases h
/-- The numbers of a text's bytes that are a painting's text. -/
def goodT (N : List Int) : Prop := 4 ≤ N.length ∧ rd N 1 = 58 ∧ rd N 3 = 58 ∧ (48 ≤ rd N 0 ∧ rd N 0 ≤ 57) ∧ (48 ≤ rd N 2 ∧ rd N 2 ≤ 57) ∧ painted (rd N 0 - 48) (rd N 2 - 48) ((N.drop 4).map fun x => x - 48) = true
noncomputable def tellT (N : List Int) : Int × Int × List Int × Bool := open Classical in if goodT N then (rd N 0 - 48, rd N 2 - 48, (N.drop 4).map fun x => x - 48, true) else (0, 0, [], false)
theorem tellT_yes {N : List Int} (h : goodT N) : tellT N = (rd N 0 - 48, rd N 2 - 48, (N.drop 4).map fun x => x - 48, true) := if_pos h
theorem tellT_no {N : List Int} (h : ¬ goodT N) : tellT N = (0, 0, [], false) := if_neg h
theorem good_len {N : List Int} (h : goodT N) : N.length ≤ 32 := by
  obtain ⟨h0, _, _, _, _, h5⟩ := h
  obtain ⟨p1, p2, _, _, p5, _⟩ := painted_of h5
  rw [List.length_map, List.length_drop] at p5
  have hq : (rd N 0 - 48) * (rd N 0 - 48 - 1) / 2 ≤ 28 := by
    have : rd N 0 - 48 = 0 ∨ rd N 0 - 48 = 1 ∨ rd N 0 - 48 = 2 ∨ rd N 0 - 48 = 3 ∨ rd N 0 - 48 = 4 ∨ rd N 0 - 48 = 5 ∨ rd N 0 - 48 = 6 ∨ rd N 0 - 48 = 7 ∨ rd N 0 - 48 = 8 := by omega
    rcases this with e | e | e | e | e | e | e | e | e <;> rw [e] <;> decide
  omega
theorem good_digits {N : List Int} (h : goodT N) : ((N.drop 4).all fun x => decide (48 ≤ x) && decide (x ≤ 57)) = true := by
  obtain ⟨_, _, _, _, _, h5⟩ := h
  obtain ⟨_, _, _, p4, _, p6⟩ := painted_of h5
  rw [List.all_eq_true]
  intro x hx
  have := p6 (x - 48) (List.mem_map.2 ⟨x, hx, rfl⟩)
  simp only [Bool.and_eq_true, decide_eq_true_eq]
  omega
theorem parse_loop {s : ByteArray} (hs : s.size ≤ 1048576) (n c : Int) : ∀ d i acc, s.size - i = d → i ≤ s.size → List.length acc ≤ i →
    Ev (fun k => spec_ptParse.l0 k s (i : Int) n c acc) (if (((numsOf s).drop i).all fun x => decide (48 ≤ x) && decide (x ≤ 57)) = true then (n, c, acc ++ ((numsOf s).drop i).map (fun x => x - 48), painted n c (acc ++ ((numsOf s).drop i).map fun x => x - 48)) else (0, 0, [], false)) := by
  intro d
  induction d with
  | zero =>
    intro i acc hd hi ha
    have e : i = s.size := by omega
    have hnil : (numsOf s).drop i = [] := List.drop_of_length_le (by rw [numsOf_length]; omega)
    rw [hnil, List.all_nil, if_pos rfl, List.map_nil, List.append_nil]
    refine Ev.step (f := fun k => (spec_ptGood.f k n c acc).bind fun t113 => (some (n, c, acc, t113))) (fun k => by simp only [spec_ptParse.l0]; rw [if_neg (by omega)]) ?_
    exact Ev.bind (ptGood_ev n c acc (by omega)) (Ev.now _)
  | succ d ih =>
    intro i acc hd hi ha
    have hi' : i < s.size := by omega
    have hl : i < (numsOf s).length := by rw [numsOf_length]; exact hi'
    have hb := bt_nums hi'
    rw [List.drop_eq_getElem_cons hl, ← rd_at hl]
    generalize rd (numsOf s) (i : Int) = x at hb ⊢
    rw [List.all_cons, List.map_cons]
    by_cases c1 : x < 48
    · rw [decide_eq_false (show ¬ 48 ≤ x by omega), Bool.false_and, Bool.false_and, if_neg (by simp)]
      exact Ev.step (f := fun _ => some (0, 0, ([] : List Int), false)) (fun k => by simp only [spec_ptParse.l0]; rw [if_pos (by omega), if_pos (by omega), hb, if_pos c1]) (Ev.now _)
    · by_cases c2 : x > 57
      · rw [decide_eq_false (show ¬ x ≤ 57 by omega), Bool.and_false, Bool.false_and, if_neg (by simp)]
        exact Ev.step (f := fun _ => some (0, 0, ([] : List Int), false)) (fun k => by simp only [spec_ptParse.l0]; rw [if_pos (by omega), if_pos (by omega), hb, if_neg c1, if_pos c2]) (Ev.now _)
      · rw [decide_eq_true (show 48 ≤ x by omega), decide_eq_true (show x ≤ 57 by omega), Bool.and_true, Bool.true_and]
        have q := ih (i + 1) (acc ++ [x - 48]) (by omega) (by omega) (by rw [List.length_append, List.length_singleton]; omega)
        rw [List.append_assoc] at q
        refine Ev.step (f := fun k => spec_ptParse.l0 k s ((i + 1 : Nat) : Int) n c (acc ++ [x - 48])) (fun k => ?_) q
        simp only [spec_ptParse.l0]
        rw [if_pos (by omega), if_pos (by omega), hb, if_neg c1, if_neg c2, if_pos (by omega), succ_cast hi' (by omega), show (x - 48) % 256 = x - 48 by omega]
theorem spec_ev (s : ByteArray) (hs : s.size ≤ 1048576) : Ev (fun k => spec_ParsePainting.f k s) (tellT (numsOf s)) := by
  have hlen := numsOf_length s
  have fin : ∀ z, Ev (fun k => spec_ptParse.f k s) z → (if z.2.2.2 = true then (z.1, z.2.1, z.2.2.1, true) else (0, 0, [], false)) = tellT (numsOf s) → Ev (fun k => spec_ParsePainting.f k s) (tellT (numsOf s)) := by
    intro z hz he
    unfold spec_ParsePainting.f
    refine Ev.bind hz ?_
    by_cases c : z.2.2.2 = true
    · rw [if_pos c] at he
      rw [← he]
      exact ev_if (fun _ => Ev.now _) (fun h => absurd c h)
    · rw [if_neg c] at he
      rw [← he]
      exact ev_if (fun h => absurd h c) (fun _ => Ev.now _)
  have bad : Ev (fun k => spec_ptParse.f k s) (0, 0, [], false) → ¬ goodT (numsOf s) → Ev (fun k => spec_ParsePainting.f k s) (tellT (numsOf s)) := fun h hn => fin _ h (by rw [tellT_no hn]; rfl)
  have out : Ev (fun k => spec_ptParse.j0 k s true) (0, 0, [], false) := Ev.step (f := fun _ => some (0, 0, ([] : List Int), false)) (fun k => by simp only [spec_ptParse.j0]; rfl) (Ev.now _)
  by_cases g1 : (decide ((4 : Int) ≤ (s.size : Int)) && decide ((s.size : Int) ≤ 40)) = true
  rotate_left
  · refine bad ?_ (fun h => ?_)
    · unfold spec_ptParse.f
      refine ev_bind0 (l1In_eq _ _ _) ?_
      exact ev_if (fun h => absurd h g1) (fun _ => out)
    · have h1 := good_len h
      have h2 := h.1
      apply g1
      simp only [Bool.and_eq_true, decide_eq_true_eq]
      omega
  have g2 : 4 ≤ s.size ∧ s.size ≤ 40 := by
    simp only [Bool.and_eq_true, decide_eq_true_eq] at g1
    omega
  have b0 : bt s 0 = rd (numsOf s) 0 := bt_nums (i := 0) (by omega)
  have b1 : bt s 1 = rd (numsOf s) 1 := bt_nums (i := 1) (by omega)
  have b2 : bt s 2 = rd (numsOf s) 2 := bt_nums (i := 2) (by omega)
  have b3 : bt s 3 = rd (numsOf s) 3 := bt_nums (i := 3) (by omega)
  have st : ∀ k, spec_ptParse.f k s = (if rd (numsOf s) 1 = 58 then (if rd (numsOf s) 3 = 58 then (if rd (numsOf s) 0 < 48 then spec_ptParse.j0 k s true else (if rd (numsOf s) 0 > 57 then spec_ptParse.j0 k s true else (if rd (numsOf s) 2 < 48 then spec_ptParse.j0 k s true else spec_ptParse.j0 k s (decide (rd (numsOf s) 2 > 57))))) else spec_ptParse.j0 k s true) else spec_ptParse.j0 k s true) := by
    intro k
    unfold spec_ptParse.f
    have h0 : ((0 : Int) < (s.size : Int)) = True := eq_true (by omega)
    have h1 : ((1 : Int) < (s.size : Int)) = True := eq_true (by omega)
    have h2 : ((2 : Int) < (s.size : Int)) = True := eq_true (by omega)
    have h3 : ((3 : Int) < (s.size : Int)) = True := eq_true (by omega)
    rw [l1In_eq, Option.bind_some, g1, if_pos rfl]
    simp only [h0, h1, h2, h3, if_true, b0, b1, b2, b3]
  by_cases c1 : rd (numsOf s) 1 = 58
  rotate_left
  · exact bad (Ev.congr (f := fun k => spec_ptParse.j0 k s true) (fun k => by rw [st, if_neg c1]) out) (fun h => c1 h.2.1)
  by_cases c3 : rd (numsOf s) 3 = 58
  rotate_left
  · exact bad (Ev.congr (f := fun k => spec_ptParse.j0 k s true) (fun k => by rw [st, if_pos c1, if_neg c3]) out) (fun h => c3 h.2.2.1)
  by_cases c0 : rd (numsOf s) 0 < 48
  · exact bad (Ev.congr (f := fun k => spec_ptParse.j0 k s true) (fun k => by rw [st, if_pos c1, if_pos c3, if_pos c0]) out) (fun h => by have := h.2.2.2.1.1; omega)
  by_cases c0' : rd (numsOf s) 0 > 57
  · exact bad (Ev.congr (f := fun k => spec_ptParse.j0 k s true) (fun k => by rw [st, if_pos c1, if_pos c3, if_neg c0, if_pos c0']) out) (fun h => by have := h.2.2.2.1.2; omega)
  by_cases c2 : rd (numsOf s) 2 < 48
  · exact bad (Ev.congr (f := fun k => spec_ptParse.j0 k s true) (fun k => by rw [st, if_pos c1, if_pos c3, if_neg c0, if_neg c0', if_pos c2]) out) (fun h => by have := h.2.2.2.2.1.1; omega)
  by_cases c2' : rd (numsOf s) 2 > 57
  · exact bad (Ev.congr (f := fun k => spec_ptParse.j0 k s true) (fun k => by rw [st, if_pos c1, if_pos c3, if_neg c0, if_neg c0', if_neg c2, decide_eq_true c2']) out) (fun h => by have := h.2.2.2.2.1.2; omega)
  have q := parse_loop hs (rd (numsOf s) 0 - 48) (rd (numsOf s) 2 - 48) (s.size - 4) 4 [] rfl (by omega) (by simp)
  rw [List.nil_append] at q
  refine fin _ (Ev.congr (f := fun k => spec_ptParse.j0 k s false) (fun k => by rw [st, if_pos c1, if_pos c3, if_neg c0, if_neg c0', if_neg c2, decide_eq_false c2']) (Ev.step (f := fun k => spec_ptParse.l0 k s ((4 : Nat) : Int) (rd (numsOf s) 0 - 48) (rd (numsOf s) 2 - 48) []) (fun k => ?_) q)) ?_
  · simp only [spec_ptParse.j0]
    rw [if_neg (by simp), if_pos (by omega), if_pos (by omega), b0, b2, show (rd (numsOf s) 0 - 48) % 256 = rd (numsOf s) 0 - 48 by omega, show (rd (numsOf s) 2 - 48) % 256 = rd (numsOf s) 2 - 48 by omega]
    rfl
  · by_cases hg : goodT (numsOf s)
    · rw [tellT_yes hg, if_pos (good_digits hg)]
      simp only
      rw [if_pos hg.2.2.2.2.2]
    · rw [tellT_no hg]
      by_cases ha : (((numsOf s).drop 4).all fun x => decide (48 ≤ x) && decide (x ≤ 57)) = true
      · rw [if_pos ha]
        simp only
        rw [if_neg (fun hp => hg ⟨by omega, c1, c3, ⟨by omega, by omega⟩, ⟨by omega, by omega⟩, hp⟩)]
      · rw [if_neg ha]; rfl
end Go.Proofs.YtnmhhhpllffpeaaDoor.Plain
/- The program's ParsePainting returns what the reference's returns, for all arguments. No condition. -/
namespace Go.Proofs.YtnmhhhpllffpeaaDoor.Pure
open Go.RowKit Go.Proofs.YtnmhhhpllffpeaaDoorW.PrintWords Go.Proofs.YtnmhhhpllffpeaaDoorW.PrintLast
set_option linter.unusedVariables false
open Q Plain Go

theorem byte_is {x y : UInt8} (h : (x.toNat : Int) = (y.toNat : Int)) : x = y := UInt8.toNat_inj.1 (by omega)
theorem col_map (p : ByteArray) : (numsOf p).map impl_ParsePainting.col = (numsOf p).map fun x => x - 48 := by
  apply List.map_congr_left
  intro x hx
  unfold numsOf at hx
  obtain ⟨b, _, rfl⟩ := List.mem_map.1 hx
  have := b.toNat_lt
  unfold impl_ParsePainting.col
  rw [wrap_id (by omega) (by omega)]
theorem impl_ev (s : ByteArray) (hs : s.size ≤ 1048576) : Ev (fun k => impl_ParsePainting.f k s) (tellT (numsOf s)) := by
  have hlen := numsOf_length s
  refine Ev.congr (f := fun k => impl_ParsePainting.g k (piecesOf s)) (fun k => by unfold impl_ParsePainting.f; rw [if_pos (by omega)]) ?_
  by_cases hg : goodT (numsOf s)
  · rw [tellT_yes hg]
    obtain ⟨g0, g1, g3, g00, g02, g5⟩ := hg
    have hln : (numsOf s).length = s.data.toList.length := by unfold numsOf; rw [List.length_map]
    obtain ⟨a, x, b, y, t, hl⟩ : ∃ a x b y t, s.data.toList = a :: x :: b :: y :: t := by
      match h : s.data.toList, (show 4 ≤ s.data.toList.length by omega) with
      | a :: x :: b :: y :: t, _ => exact ⟨a, x, b, y, t, rfl⟩
    have hN : numsOf s = (a.toNat : Int) :: (x.toNat : Int) :: (b.toNat : Int) :: (y.toNat : Int) :: t.map fun b : UInt8 => (b.toNat : Int) := by unfold numsOf; rw [hl]; rfl
    have e0 : rd (numsOf s) 0 = (a.toNat : Int) := by rw [hN]; rfl
    have e1 : rd (numsOf s) 1 = (x.toNat : Int) := by rw [hN]; rfl
    have e2 : rd (numsOf s) 2 = (b.toNat : Int) := by rw [hN]; rfl
    have e3 : rd (numsOf s) 3 = (y.toNat : Int) := by rw [hN]; rfl
    have e4 : (numsOf s).drop 4 = t.map fun b : UInt8 => (b.toNat : Int) := by rw [hN]; rfl
    rw [e1] at g1
    rw [e3] at g3
    rw [e0] at g00
    rw [e2] at g02
    obtain rfl : x = 58 := byte_is g1
    obtain rfl : y = 58 := byte_is g3
    rw [e0, e2, e4] at g5 ⊢
    obtain ⟨q1, q2, q3, q4, _, q6⟩ := painted_of g5
    have n58 : (58 : UInt8).toNat = 58 := rfl
    obtain ⟨p0, p1, p2, hp, h0, h1, h2⟩ := pieces_good hl (fun e => by rw [e, n58] at q2; omega) (fun e => by rw [e, n58] at q4; omega) (fun hm => by
      have := q6 ((58 : Int) - 48) (List.mem_map.2 ⟨58, List.mem_map.2 ⟨58, hm, rfl⟩, rfl⟩)
      omega)
    have v0 : impl_number.v p0 8 = ((a.toNat : Int) - 48, true) := by
      have := number_good (p := p0) (d := a.toNat - 48) (by omega) (by rw [h0, show 48 + (a.toNat - 48) = a.toNat by omega, UInt8.ofNat_toNat]) (most := 8) (by omega)
      rw [this]
      congr 1
      omega
    have v1 : impl_number.v p1 3 = ((b.toNat : Int) - 48, true) := by
      have := number_good (p := p1) (d := b.toNat - 48) (by omega) (by rw [h1, show 48 + (b.toNat - 48) = b.toNat by omega, UInt8.ofNat_toNat]) (most := 3) (by omega)
      rw [this]
      congr 1
      omega
    have hp2 : (numsOf p2).map impl_ParsePainting.col = (t.map fun b : UInt8 => (b.toNat : Int)).map fun x => x - 48 := by rw [col_map]; unfold numsOf; rw [h2]
    have hlt : ((t.map fun b : UInt8 => (b.toNat : Int)).map fun x => x - 48).length ≤ 9223372036854775807 := by
      rw [← e4, List.length_map, List.length_drop]; omega
    rw [hp]
    refine Ev.congr (f := fun k => (impl_IsPainting.f k ((a.toNat : Int) - 48) ((b.toNat : Int) - 48) ((t.map fun b : UInt8 => (b.toNat : Int)).map fun x => x - 48)).bind fun b_ => if b_ = true then some ((a.toNat : Int) - 48, (b.toNat : Int) - 48, (t.map fun b : UInt8 => (b.toNat : Int)).map fun x => x - 48, true) else some (0, 0, [], false)) (fun k => by simp only [impl_ParsePainting.g]; rw [v0, v1, hp2]; rfl) ?_
    refine Ev.bind (isPainting_ev _ _ _ hlt) ?_
    exact ev_if (fun _ => Ev.now _) (fun h => absurd g5 h)
  · rw [tellT_no hg]
    by_cases h3 : (piecesOf s).length = 3
    rotate_left
    · exact Ev.congr (f := fun _ => some (0, 0, ([] : List Int), false)) (fun k => impl_ParsePainting.g_else k h3) (Ev.now _)
    obtain ⟨p0, p1, p2, hp⟩ := impl_ParsePainting.three h3
    rw [hp]
    by_cases hv : (impl_number.v p0 8).2 = true ∧ (impl_number.v p1 3).2 = true
    rotate_left
    · exact Ev.congr (f := fun _ => some (0, 0, ([] : List Int), false)) (fun k => by simp only [impl_ParsePainting.g]; rw [if_neg hv]) (Ev.now _)
    obtain ⟨a1, a2, a3⟩ := number_true hv.1
    obtain ⟨b1, b2, b3⟩ := number_true hv.2
    have hl := pieces_three hp
    obtain ⟨n, hn⟩ : ∃ n : Nat, (impl_number.v p0 8).1 = (n : Int) := ⟨(impl_number.v p0 8).1.toNat, by omega⟩
    obtain ⟨m, hm⟩ : ∃ n : Nat, (impl_number.v p1 3).1 = (n : Int) := ⟨(impl_number.v p1 3).1.toNat, by omega⟩
    have i0 := itoa_digit ⟨n, by omega⟩
    have i1 := itoa_digit ⟨m, by omega⟩
    simp only at i0 i1
    rw [hn, i0] at a3
    rw [hm, i1] at b3
    rw [a3, b3] at hl
    have t0 : (UInt8.ofNat (48 + n)).toNat = 48 + n := by rw [UInt8.toNat_ofNat']; omega
    have t1 : (UInt8.ofNat (48 + m)).toNat = 48 + m := by rw [UInt8.toNat_ofNat']; omega
    have hN : numsOf s = ((48 + n : Nat) : Int) :: (58 : Int) :: ((48 + m : Nat) : Int) :: (58 : Int) :: numsOf p2 := by
      unfold numsOf
      rw [hl]
      simp only [List.cons_append, List.nil_append, List.map_cons, t0, t1]
      rfl
    have e0 : rd (numsOf s) 0 = ((48 + n : Nat) : Int) := by rw [hN]; rfl
    have e1 : rd (numsOf s) 1 = 58 := by rw [hN]; rfl
    have e2 : rd (numsOf s) 2 = ((48 + m : Nat) : Int) := by rw [hN]; rfl
    have e3 : rd (numsOf s) 3 = 58 := by rw [hN]; rfl
    have e4 : (numsOf s).drop 4 = numsOf p2 := by rw [hN]; rfl
    have hno : painted (n : Int) (m : Int) ((numsOf p2).map fun x => x - 48) ≠ true := fun hpt => hg ⟨by rw [hN]; simp only [List.length_cons]; omega, e1, e3, by rw [e0]; omega, by rw [e2]; omega, by
      rw [e0, e2, e4, show ((48 + n : Nat) : Int) - 48 = (n : Int) by omega, show ((48 + m : Nat) : Int) - 48 = (m : Int) by omega]
      exact hpt⟩
    have hlt : ((numsOf p2).map fun x => x - 48).length ≤ 9223372036854775807 := by
      rw [List.length_map, ← e4, List.length_drop]; omega
    refine Ev.congr (f := fun k => (impl_IsPainting.f k (n : Int) (m : Int) ((numsOf p2).map fun x => x - 48)).bind fun b_ => if b_ = true then some ((n : Int), (m : Int), (numsOf p2).map (fun x => x - 48), true) else some (0, 0, [], false)) (fun k => by simp only [impl_ParsePainting.g]; rw [if_pos hv, hn, hm, col_map]) ?_
    refine Ev.bind (isPainting_ev _ _ _ hlt) ?_
    exact ev_if (fun h => absurd h hno) (fun _ => Ev.now _)
theorem tell_len (N : List Int) : (tellT N).2.2.1.length ≤ 32 := by
  by_cases hg : goodT N
  · rw [tellT_yes hg]
    have := good_len hg
    simp only [List.length_map, List.length_drop]
    omega
  · rw [tellT_no hg]; simp
theorem FnExactParsePainting : laws_FnExactParsePainting.Pure := by
  intro s _
  refine Ev.rounds (g := fun k => laws_FnExactParsePainting.f k s) ?_
  unfold laws_FnExactParsePainting.f
  refine ev_if (fun _ => Ev.now _) (fun hb => ?_)
  have hS := spec_ev s (by omega)
  have hI := impl_ev s (by omega)
  have hp := tell_len (numsOf s)
  generalize tellT (numsOf s) = z at hS hI hp
  obtain ⟨pn, pc, ps, ok1⟩ := z
  replace hp : ps.length ≤ 32 := hp
  refine Ev.bind hS ?_
  refine Ev.bind hI ?_
  refine Ev.bind (eqPainting_ev pn pc ps (by omega)) ?_
  refine ev_if (fun _ => ?_) (fun h => absurd rfl h)
  show Ev (fun k => laws_FnExactParsePainting.j0 k s ok1 (ok1 != ok1) pn pc ps pn pc ps) true
  rw [show (ok1 != ok1) = false by simp]
  refine Ev.step (f := fun k => (laws_markPainting.f k pn pc ps 1).bind fun bt156 => ((laws_heldPainting.f k pn pc bt156.2 1).bind fun t158 => (if t158 < 0 then (some false) else (if t158 = bt156.1 then ((impl_ParsePainting.f k s).bind fun bt159 => ((laws_eqPainting.f k bt159.1 bt159.2.1 bt159.2.2.1 pn pc ps).bind fun t166 => (if t166 = true then (laws_FnExactParsePainting.j1 k bt156.1 (bt159.2.2.2 != ok1) pn pc bt156.2) else (laws_FnExactParsePainting.j1 k bt156.1 true pn pc bt156.2)))) else (some false))))) (fun k => by simp only [laws_FnExactParsePainting.j0]; rfl) ?_
  refine Ev.bind (markPainting_ev pn pc ps (by omega)) ?_
  refine Ev.bind (heldPainting_ev pn pc _ (by omega)) ?_
  refine ev_if (fun (q : (1 + ((ps.length : Nat) : Int)) < 0) => by omega) (fun _ => ?_)
  refine ev_if (fun _ => ?_) (fun h => absurd rfl h)
  refine Ev.bind hI ?_
  refine Ev.bind (eqPainting_ev pn pc ps (by omega)) ?_
  refine ev_if (fun _ => ?_) (fun h => absurd rfl h)
  show Ev (fun k => laws_FnExactParsePainting.j1 k (1 + (ps.length : Int)) (ok1 != ok1) pn pc (marksI 1 ps.length)) true
  rw [show (ok1 != ok1) = false by simp]
  refine Ev.step (f := fun k => (laws_heldPainting.f k pn pc (marksI 1 ps.length) 1).bind fun t167 => (if t167 < 0 then (some false) else (if t167 = (1 + (ps.length : Int)) then (some true) else (some false)))) (fun k => by simp only [laws_FnExactParsePainting.j1]; rfl) ?_
  refine Ev.bind (heldPainting_ev pn pc _ (by omega)) ?_
  refine ev_if (fun (q : (1 + ((ps.length : Nat) : Int)) < 0) => by omega) (fun _ => ?_)
  refine ev_if (fun _ => ?_) (fun h => absurd rfl h)
  exact Ev.now _
end Go.Proofs.YtnmhhhpllffpeaaDoor.Pure
