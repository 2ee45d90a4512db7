import Derived.Test.YtnnmnliebjpgiaaQ0
import Derived.Test.YtnnmnliebjpgiaaQ3
import Derived.Test.YtnnmnliebjpgiaaQ21
import Derived.Test.YtnnmnliebjpgiaaQ32
import Derived.Test.YtnnmnliebjpgiaaQ39
import Derived.Test.YtnnmnliebjpgiaaQ42
import Derived.Test.YtnnmnliebjpgiaaQ69
import Derived.Test.YtnnmnliebjpgiaaQ73
import Derived.Test.YtnnmnliebjpgiaaQ74
import Derived.Test.YtnnmnliebjpgiaaQ75
import Derived.Test.YtnnmnliebjpgiaaQ77
import Derived.Test.YtnnmnliebjpgiaaQ79
/- Plain lemmas over rounds, lists and whole numbers, for the pure statements of this seat. No condition. -/
namespace Go.Proofs.Ytnnmnliebjpgiaa.Plain
open Go.RowKit Go.Proofs.YtnnmnliebjpgiaaW.PrintWords Go.Proofs.YtnnmnliebjpgiaaW.PrintLast
set_option linter.unusedVariables false

theorem wrap_id {x : Int} (h0 : -9223372036854775808 ≤ x) (h1 : x ≤ 9223372036854775807) : wrap64 x = x := by
  unfold wrap64
  omega

theorem rd_at {l : List Int} {i : Nat} (h : i < l.length) : rd l (i : Int) = l[i] := by
  simp [rd, List.getD, h]

theorem ev_bind0 {α β : Type} {g : Option α} {f : Nat → α → Option β} {a : α} {r : β} (h : g = some a) (k : Ev (fun n => f n a) r) : Ev (fun n => g.bind (f n)) r := by
  obtain ⟨K, hK⟩ := k
  refine ⟨K, fun n hn => ?_⟩
  show g.bind (f n) = some r
  rw [h]
  exact hK n hn

theorem ev_if {α : Type} {c : Prop} [Decidable c] {f g : Nat → Option α} {r : α} (hf : c → Ev f r) (hg : ¬ c → Ev g r) : Ev (fun n => if c then f n else g n) r := by
  by_cases h : c
  · obtain ⟨K, hK⟩ := hf h
    exact ⟨K, fun n hn => (if_pos h).trans (hK n hn)⟩
  · obtain ⟨K, hK⟩ := hg h
    exact ⟨K, fun n hn => (if_neg h).trans (hK n hn)⟩

/-- A loop over an index, from any index on, in one shape. -/
theorem ev_up {α : Type} {n : Nat} {loop : Nat → Nat → Option α} {r : Nat → α} (hend : Ev (fun k => loop k n) (r n)) (hstep : ∀ i, i < n → (Ev (fun k => loop k (i + 1)) (r (i + 1)) → Ev (fun k => loop k i) (r i))) :
    ∀ i, i ≤ n → Ev (fun k => loop k i) (r i) := by
  intro i hi
  have : ∀ d i, i ≤ n → n - i = d → Ev (fun k => loop k i) (r i) := by
    intro d
    induction d with
    | zero =>
      intro i hi hd
      have e : i = n := by omega
      rw [e]; exact hend
    | succ d ih =>
      intro i hi hd
      exact hstep i (by omega) (ih (i + 1) (by omega) (by omega))
  exact this (n - i) i hi rfl
/-- The same from a first index on. -/
theorem ev_from {α : Type} {lo n : Nat} {loop : Nat → Nat → Option α} {r : Nat → α} (hend : Ev (fun k => loop k n) (r n)) (hstep : ∀ i, lo ≤ i → i < n → (Ev (fun k => loop k (i + 1)) (r (i + 1)) → Ev (fun k => loop k i) (r i))) :
    ∀ i, lo ≤ i → i ≤ n → Ev (fun k => loop k i) (r i) := by
  have : ∀ d i, lo ≤ i → i ≤ n → n - i = d → Ev (fun k => loop k i) (r i) := by
    intro d
    induction d with
    | zero =>
      intro i _ hi hd
      have e : i = n := by omega
      rw [e]; exact hend
    | succ d ih =>
      intro i h0 hi hd
      exact hstep i h0 (by omega) (ih (i + 1) (by omega) (by omega) (by omega))
  exact fun i h0 hi => this (n - i) i h0 hi rfl

theorem all_step (f : Nat → Bool) {m i : Nat} (h : i < m) : ((List.range m).drop i).all f = (f i && ((List.range m).drop (i + 1)).all f) := by
  rw [List.drop_eq_getElem_cons (by simpa using h), List.all_cons, List.getElem_range]
theorem all_end (f : Nat → Bool) {m i : Nat} (h : m ≤ i) : ((List.range m).drop i).all f = true := by
  rw [List.drop_of_length_le (by simpa using h)]; rfl
theorem succ_cast {i n : Nat} (h : i < n) (hn : n ≤ 9223372036854775807) : wrap64 ((i : Int) + 1) = ((i + 1 : Nat) : Int) := by
  rw [wrap_id (by omega) (by omega)]; rfl
theorem pred_cast {i : Nat} (h : 1 ≤ i) (hn : i ≤ 9223372036854775807) : wrap64 ((i : Int) - 1) = ((i - 1 : Nat) : Int) := by
  rw [wrap_id (by omega) (by omega)]; omega
end Go.Proofs.Ytnnmnliebjpgiaa.Plain

/- The law's own functions over lists of whole numbers: copies, equality, bounds. No condition but lengths that fit. -/
namespace Go.Proofs.Ytnnmnliebjpgiaa.Plain
open Go.RowKit Go.Proofs.YtnnmnliebjpgiaaW.PrintWords Go.Proofs.YtnnmnliebjpgiaaW.PrintLast
set_option linter.unusedVariables false
open Q

theorem copy_step (l : List Int) (i : Nat) (h : i < l.length) :
    (l.take i ++ List.replicate (l.length - i) (0 : Int)).set ((i : Int)).toNat (rd l (i : Int)) = l.take (i + 1) ++ List.replicate (l.length - (i + 1)) (0 : Int) := by
  have e : l.length - i = (l.length - (i + 1)) + 1 := by omega
  have hl : (l.take i).length = i := by simp; omega
  rw [Int.toNat_natCast, rd_at h, e, List.replicate_succ, List.set_append_right _ _ (by omega), hl, Nat.sub_self, List.set_cons_zero, List.take_succ_eq_append_getElem h, List.append_assoc]
  rfl

theorem toIntS_ev (l : List Int) (h : l.length ≤ 35184372088832) : Ev (fun k => laws_toIntS.f k l) l := by
  refine Ev.congr (f := fun k => laws_toIntS.l0 k l (List.replicate l.length 0) 0) (fun k => ?_) ?_
  · unfold laws_toIntS.f
    rw [if_pos (by omega), if_pos (by omega), Int.toNat_natCast]
  · have q := ev_up (n := l.length) (loop := fun k i => laws_toIntS.l0 k l (l.take i ++ List.replicate (l.length - i) 0) (i : Int)) (r := fun _ => l)
      (Ev.step (f := fun _ => some l) (fun k => by simp [laws_toIntS.l0]) (Ev.now l))
      (fun i hi ih => Ev.step (f := fun k => laws_toIntS.l0 k l (l.take (i + 1) ++ List.replicate (l.length - (i + 1)) 0) ((i + 1 : Nat) : Int)) (fun k => by
        simp only [laws_toIntS.l0]
        rw [if_pos (by omega), if_pos (by omega), if_pos (by simp; omega), copy_step l i hi, succ_cast hi (by omega)]) ih) 0 (Nat.zero_le _)
    simpa using q

theorem eqIntS_ev (l : List Int) (h : l.length ≤ 9223372036854775807) : Ev (fun k => laws_eqIntS.f k l l) true := by
  refine Ev.congr (f := fun k => laws_eqIntS.l0 k l l 0) (fun k => ?_) ?_
  · unfold laws_eqIntS.f
    rw [if_pos rfl]
  · exact ev_up (n := l.length) (loop := fun k i => laws_eqIntS.l0 k l l (i : Int)) (r := fun _ => true)
      (Ev.step (f := fun _ => some true) (fun k => by simp [laws_eqIntS.l0]) (Ev.now true))
      (fun i hi ih => Ev.step (f := fun k => laws_eqIntS.l0 k l l ((i + 1 : Nat) : Int)) (fun k => by
        simp only [laws_eqIntS.l0]
        rw [if_pos (by omega), if_pos (by omega), if_pos (by omega), if_pos trivial, succ_cast hi h]) ih) 0 (Nat.zero_le _)

theorem l1In_eq (a b c : Int) : spec_l1In.f a b c = some (decide (b ≤ a) && decide (a ≤ c)) := by
  unfold spec_l1In.f
  by_cases h : b ≤ a <;> simp [h]

theorem within_eq (a b c : Int) : impl_within.f a b c = some (decide (b ≤ a) && decide (a ≤ c)) := by
  unfold impl_within.f
  by_cases h : b ≤ a <;> simp [h]

theorem l1All_ev (l : List Int) (lo hi : Int) (h : l.length ≤ 9223372036854775807) : Ev (fun k => spec_l1All.f k l lo hi) (l.all fun x => decide (lo ≤ x) && decide (x ≤ hi)) := by
  have q := ev_up (n := l.length) (loop := fun k i => spec_l1All.l0 k lo hi l (l.length : Int) (i : Int)) (r := fun i => (l.drop i).all fun x => decide (lo ≤ x) && decide (x ≤ hi))
    (Ev.step (f := fun _ => some true) (fun k => by simp [spec_l1All.l0]) (by simpa using Ev.now true))
    (fun i hi' ih => by
      have e : (l.drop i).all (fun x => decide (lo ≤ x) && decide (x ≤ hi)) = ((decide (lo ≤ l[i]) && decide (l[i] ≤ hi)) && (l.drop (i + 1)).all fun x => decide (lo ≤ x) && decide (x ≤ hi)) := by
        rw [List.drop_eq_getElem_cons hi', List.all_cons]
      rw [e]
      cases hb : (decide (lo ≤ l[i]) && decide (l[i] ≤ hi)) with
      | true =>
        refine Ev.step (f := fun k => spec_l1All.l0 k lo hi l (l.length : Int) ((i + 1 : Nat) : Int)) (fun k => ?_) (by simpa using ih)
        simp only [spec_l1All.l0]
        rw [if_pos (by omega), if_pos (by omega), if_pos (by omega), l1In_eq, rd_at hi', hb, Option.bind_some, if_pos rfl, succ_cast hi' h]
      | false =>
        refine Ev.step (f := fun _ => some false) (fun k => ?_) (by simpa using Ev.now false)
        simp only [spec_l1All.l0]
        rw [if_pos (by omega), if_pos (by omega), if_pos (by omega), l1In_eq, rd_at hi', hb, Option.bind_some, if_neg (by simp)]) 0 (Nat.zero_le _)
  simpa [spec_l1All.f] using q

end Go.Proofs.Ytnnmnliebjpgiaa.Plain

/- Is a number in a list: the reference's way. No condition but a length that fits. -/
namespace Go.Proofs.Ytnnmnliebjpgiaa.Plain
open Go.RowKit Go.Proofs.YtnnmnliebjpgiaaW.PrintWords Go.Proofs.YtnnmnliebjpgiaaW.PrintLast
set_option linter.unusedVariables false
open Q

theorem l1Has_ev (l : List Int) (a : Int) (h : l.length ≤ 9223372036854775807) : Ev (fun k => spec_l1Has.f k l a) (l.contains a) := by
  have q := ev_up (n := l.length) (loop := fun k i => spec_l1Has.l0 k a l (l.length : Int) (i : Int)) (r := fun i => (l.drop i).contains a)
    (Ev.step (f := fun _ => some false) (fun k => by simp [spec_l1Has.l0]) (by simpa using Ev.now false))
    (fun i hi ih => by
      rw [List.drop_eq_getElem_cons hi, List.contains_cons]
      by_cases e : l[i] = a
      · refine Ev.step (f := fun _ => some true) (fun k => ?_) (by rw [e]; simpa using Ev.now true)
        simp only [spec_l1Has.l0]
        rw [if_pos (by omega), if_pos (by omega), if_pos (by omega), rd_at hi, if_pos e]
      · refine Ev.step (f := fun k => spec_l1Has.l0 k a l (l.length : Int) ((i + 1 : Nat) : Int)) (fun k => ?_) ?_
        · simp only [spec_l1Has.l0]
          rw [if_pos (by omega), if_pos (by omega), if_pos (by omega), rd_at hi, if_neg e, succ_cast hi h]
        · have : (a == l[i]) = false := by simpa using fun q => e q.symm
          rw [this, Bool.false_or]; exact ih) 0 (Nat.zero_le _)
  simpa [spec_l1Has.f] using q
end Go.Proofs.Ytnnmnliebjpgiaa.Plain

/- Is a list strictly increasing. No condition but a length that fits. -/
namespace Go.Proofs.Ytnnmnliebjpgiaa.Plain
open Go.RowKit Go.Proofs.YtnnmnliebjpgiaaW.PrintWords Go.Proofs.YtnnmnliebjpgiaaW.PrintLast
set_option linter.unusedVariables false
open Q

/-- A number is greater than the one before. -/
def risesAt (l : List Int) (i : Nat) : Bool := decide (rd l ((i : Int) - 1) < rd l (i : Int))
def rising (l : List Int) : Bool := ((List.range l.length).drop 1).all (risesAt l)

theorem isRising_ev (l : List Int) (h : l.length ≤ 9223372036854775806) : Ev (fun k => impl_isRising.f k l) (rising l) := by
  have q := ev_from (lo := 1) (n := max 1 l.length) (loop := fun k i => impl_isRising.l0 k l (i : Int)) (r := fun i => ((List.range l.length).drop i).all (risesAt l))
    (Ev.step (f := fun _ => some true) (fun k => by simp only [impl_isRising.l0]; rw [if_neg (by omega)]) (by rw [all_end _ (by omega)]; exact Ev.now true))
    (fun i h0 hi ih => by
      have hl : i < l.length := by omega
      rw [all_step _ hl]
      have e : risesAt l i = decide (l[i-1] < l[i]) := by
        unfold risesAt
        rw [show ((i : Int) - 1) = ((i - 1 : Nat) : Int) by omega, rd_at hl, rd_at (by omega : i - 1 < l.length)]
      rw [e]
      by_cases c : l[i] ≤ l[i-1]
      · refine Ev.step (f := fun _ => some false) (fun k => ?_) (by rw [decide_eq_false (by omega)]; simpa using Ev.now false)
        simp only [impl_isRising.l0]
        rw [pred_cast h0 (by omega), if_pos (by omega), if_pos (by omega), if_pos (by omega), if_pos (by omega), rd_at hl, rd_at (by omega : i - 1 < l.length), if_pos c]
      · refine Ev.step (f := fun k => impl_isRising.l0 k l ((i + 1 : Nat) : Int)) (fun k => ?_) (by rw [decide_eq_true (by omega), Bool.true_and]; exact ih)
        simp only [impl_isRising.l0]
        rw [pred_cast h0 (by omega), if_pos (by omega), if_pos (by omega), if_pos (by omega), if_pos (by omega), rd_at hl, rd_at (by omega : i - 1 < l.length), if_neg c, succ_cast hl (by omega)]) 1 (Nat.le_refl _) (by omega)
  simpa [impl_isRising.f, rising] using q

theorem rising_get {l : List Int} (h : rising l = true) : ∀ i, (hi : i + 1 < l.length) → l[i] < l[i+1] := by
  intro i hi
  unfold rising at h
  rw [List.all_eq_true] at h
  have hm : i + 1 ∈ (List.range l.length).drop 1 := by
    rw [List.mem_drop_iff_getElem]
    exact ⟨i, by simpa using hi, by simp; omega⟩
  have q := h _ hm
  unfold risesAt at q
  rw [show (((i + 1 : Nat) : Int) - 1) = ((i : Nat) : Int) by omega, rd_at hi, rd_at (by omega : i < l.length)] at q
  simpa using q

end Go.Proofs.Ytnnmnliebjpgiaa.Plain

/- Lists that hold each number less than n once: both sides' tests tell the same. No condition. -/
namespace Go.Proofs.Ytnnmnliebjpgiaa.Plain
open Go.RowKit Go.Proofs.YtnnmnliebjpgiaaW.PrintWords Go.Proofs.YtnnmnliebjpgiaaW.PrintLast
set_option linter.unusedVariables false
open Q

def upToL (n : Nat) : List Int := (List.range n).map fun i : Nat => (i : Int)
theorem upToL_length (n : Nat) : (upToL n).length = n := by simp [upToL]
theorem mem_upToL {n : Nat} {x : Int} : x ∈ upToL n ↔ 0 ≤ x ∧ x < (n : Int) := by
  simp only [upToL, List.mem_map, List.mem_range]
  constructor
  · rintro ⟨i, hi, rfl⟩; omega
  · rintro ⟨h0, h1⟩; exact ⟨x.toNat, by omega, by omega⟩
/-- No number twice. -/
def nodupB (l : List Int) : Bool := (List.range l.length).all fun i => !(l.take i).contains (rd l (i : Int))
theorem nodupB_iff {l : List Int} : nodupB l = true ↔ l.Nodup := by
  rw [List.nodup_iff_pairwise_ne, List.pairwise_iff_getElem]
  unfold nodupB
  simp only [List.all_eq_true, List.mem_range, Bool.not_eq_true', List.contains_eq_mem, decide_eq_false_iff_not]
  constructor
  · intro h i j hi hj hij e
    refine h j hj ?_
    rw [rd_at hj, List.mem_take_iff_getElem]
    exact ⟨i, by omega, e⟩
  · intro h j hj hm
    rw [rd_at hj, List.mem_take_iff_getElem] at hm
    obtain ⟨i, hi, e⟩ := hm
    exact h i j (by omega) hj (by omega) e

abbrev sortI (l : List Int) : List Int := l.mergeSort fun x y => decide (x ≤ y)
theorem sortI_perm (l : List Int) : (sortI l).Perm l := List.mergeSort_perm _ _
theorem sortI_length (l : List Int) : (sortI l).length = l.length := (sortI_perm l).length_eq
theorem sortI_pairwise (l : List Int) : (sortI l).Pairwise (fun a b => a ≤ b) := by
  have := List.pairwise_mergeSort (le := fun x y : Int => decide (x ≤ y)) (fun a b c h1 h2 => by simp only [decide_eq_true_eq] at *; omega) (fun a b => by simp only [Bool.or_eq_true, decide_eq_true_eq]; omega) l
  exact this.imp (fun h => by simpa using h)
end Go.Proofs.Ytnnmnliebjpgiaa.Plain

/- Parties: both sides' tests, and the law's own functions over parties. No condition but lengths that fit. -/
namespace Go.Proofs.Ytnnmnliebjpgiaa.Plain
open Go.RowKit Go.Proofs.YtnnmnliebjpgiaaW.PrintWords Go.Proofs.YtnnmnliebjpgiaaW.PrintLast
set_option linter.unusedVariables false
open Q

abbrev Pr := S87
abbrev rdP (l : List Pr) (i : Int) : Pr := rd_T87 l i

def pairOk (n : Int) (x : Pr) : Bool := decide (0 ≤ x.f0) && (decide (x.f0 < x.f1) && decide (x.f1 < n))
def lessB (x y : Pr) : Bool := decide (x.f0 < y.f0) || (decide (x.f0 = y.f0) && decide (x.f1 < y.f1))
/-- The pair at an index is right, and comes behind the one before. -/
def okAt (n : Int) (l : List Pr) (i : Nat) : Bool := pairOk n (rdP l i) && (decide (i = 0) || lessB (rdP l ((i : Int) - 1)) (rdP l i))
def party (n : Int) (l : List Pr) : Bool := (decide (0 ≤ n) && decide (n ≤ 12)) && (List.range l.length).all (okAt n l)

/-! What a party is, in words of numbers. -/
end Go.Proofs.Ytnnmnliebjpgiaa.Plain

/- The laws' marks: written into a list and found again. No condition but a length that fits. -/
namespace Go.Proofs.Ytnnmnliebjpgiaa.Plain
open Go.RowKit Go.Proofs.YtnnmnliebjpgiaaW.PrintWords Go.Proofs.YtnnmnliebjpgiaaW.PrintLast
set_option linter.unusedVariables false
open Q

/-- The marks of n numbers from v on. -/
def marksI (v : Int) (n : Nat) : List Int := (List.range n).map fun i : Nat => v + (i : Int)
theorem marksI_length (v : Int) (n : Nat) : (marksI v n).length = n := by simp [marksI]
theorem marksI_get {v : Int} {n i : Nat} (h : i < (marksI v n).length) : (marksI v n)[i] = v + (i : Int) := by simp [marksI]

theorem marksI_step (v : Int) (l : List Int) {i : Nat} (hi : i < l.length) : (marksI v i ++ l.drop i).set i (v + (i : Int)) = marksI v (i + 1) ++ l.drop (i + 1) := by
  apply List.ext_getElem
  · simp [marksI_length]; omega
  · intro j h1 h2
    rw [List.getElem_set]
    by_cases e : i = j
    · subst e
      rw [if_pos rfl, List.getElem_append_left (by rw [marksI_length]; omega), marksI_get]
    · rw [if_neg e]
      by_cases c : j < i
      · rw [List.getElem_append_left (by rw [marksI_length]; omega), List.getElem_append_left (by rw [marksI_length]; omega), marksI_get, marksI_get]
      · rw [List.getElem_append_right (by rw [marksI_length]; omega), List.getElem_append_right (by rw [marksI_length]; omega), List.getElem_drop, List.getElem_drop]
        congr 1
        rw [marksI_length, marksI_length]
        omega

theorem markIntS_ev (l : List Int) (v : Int) (h : l.length ≤ 1152921504606846976) (h0 : 0 ≤ v) (h1 : v ≤ 1000) : Ev (fun k => laws_markIntS.f k l v) (v + (l.length : Int), marksI v l.length) := by
  have q := ev_up (n := l.length) (loop := fun k i => laws_markIntS.l0 k (marksI v i ++ l.drop i) (v + (i : Int)) (i : Int)) (r := fun _ => (v + (l.length : Int), marksI v l.length))
    (by
      refine Ev.step (f := fun _ => some (v + (l.length : Int), marksI v l.length)) (fun k => ?_) (Ev.now _)
      simp only [laws_markIntS.l0]
      rw [List.drop_length, List.append_nil, if_neg (by rw [marksI_length]; omega)])
    (fun i hi ih => by
      have hlen : (marksI v i ++ l.drop i).length = l.length := by rw [List.length_append, marksI_length, List.length_drop]; omega
      have w1 : wrap64 (v + (i : Int) + 1) = v + ((i + 1 : Nat) : Int) := by rw [wrap_id (by omega) (by omega)]; omega
      refine Ev.step (f := fun k => laws_markIntS.l0 k (marksI v (i + 1) ++ l.drop (i + 1)) (v + ((i + 1 : Nat) : Int)) ((i + 1 : Nat) : Int)) (fun k => ?_) ih
      simp only [laws_markIntS.l0]
      rw [if_pos (by rw [hlen]; omega), if_pos (by omega), w1, succ_cast hi (by omega), Int.toNat_natCast, marksI_step v l hi]) 0 (Nat.zero_le _)
  have e : marksI v 0 ++ l.drop 0 = l := by simp [marksI]
  rw [e] at q
  simpa [laws_markIntS.f] using q

theorem heldIntS_ev (n : Nat) (v : Int) (h : n ≤ 1152921504606846976) (h0 : 0 ≤ v) (h1 : v ≤ 1000) : Ev (fun k => laws_heldIntS.f k (marksI v n) v) (v + (n : Int)) := by
  have hl := marksI_length v n
  have q := ev_up (n := n) (loop := fun k i => laws_heldIntS.l0 k (marksI v n) (v + (i : Int)) (i : Int)) (r := fun _ => v + (n : Int))
    (Ev.step (f := fun _ => some (v + (n : Int))) (fun k => by simp only [laws_heldIntS.l0]; rw [if_neg (by rw [hl]; omega)]) (Ev.now _))
    (fun i hi ih => by
      have w1 : wrap64 (v + (i : Int) + 1) = v + ((i + 1 : Nat) : Int) := by rw [wrap_id (by omega) (by omega)]; omega
      refine Ev.step (f := fun k => laws_heldIntS.l0 k (marksI v n) (v + ((i + 1 : Nat) : Int)) ((i + 1 : Nat) : Int)) (fun k => ?_) ih
      simp only [laws_heldIntS.l0]
      rw [if_pos (by rw [hl]; omega), if_pos (by omega), rd_at (by rw [hl]; exact hi), marksI_get, if_pos rfl, w1, succ_cast hi (by omega)]) 0 (Nat.zero_le _)
  simpa [laws_heldIntS.f] using q

end Go.Proofs.Ytnnmnliebjpgiaa.Plain
/- The program's TurnSeats returns what the reference's returns, for all arguments. No condition. -/
namespace Go.Proofs.Ytnnmnliebjpgiaa.Pure
open Go.RowKit Go.Proofs.YtnnmnliebjpgiaaW.PrintWords Go.Proofs.YtnnmnliebjpgiaaW.PrintLast
set_option linter.unusedVariables false
open Q Plain

theorem nodup_len : ∀ (l m : List Int), l.Nodup → (∀ x ∈ l, x ∈ m) → l.length ≤ m.length
  | [], m, _, _ => by simp
  | x :: l, m, hd, hs => by
    have hx : x ∈ m := hs x (by simp)
    have hd' := List.nodup_cons.1 hd
    have := nodup_len l (m.erase x) hd'.2 (fun y hy => (List.mem_erase_of_ne (fun e => hd'.1 (by rw [← e]; exact hy))).2 (hs y (by simp [hy])))
    rw [List.length_erase_of_mem hx] at this
    have h1 : 0 < m.length := List.length_pos_of_mem hx
    rw [List.length_cons]; omega

theorem rising_sort (l : List Int) : rising (sortI l) = nodupB l := by
  rw [Bool.eq_iff_iff, nodupB_iff, ← (sortI_perm l).nodup_iff]
  have hs := sortI_pairwise l
  generalize sortI l = s at hs
  rw [List.pairwise_iff_getElem] at hs
  rw [List.nodup_iff_pairwise_ne, List.pairwise_iff_getElem]
  constructor
  · intro h i j hi hj hij e
    have h1 := rising_get h i (by omega)
    rcases Nat.lt_or_ge (i + 1) j with c | c
    · have := hs (i + 1) j (by omega) hj c
      omega
    · have : j = i + 1 := by omega
      subst this
      omega
  · intro h
    unfold rising
    rw [List.all_eq_true]
    intro i hi
    obtain ⟨j, hj, e⟩ := List.mem_iff_getElem.1 hi
    have hj' : j < s.length - 1 := by simpa using hj
    have ei : i = j + 1 := by rw [← e]; simp; omega
    subst ei
    unfold risesAt
    rw [decide_eq_true_eq, show (((j + 1 : Nat) : Int) - 1) = ((j : Nat) : Int) by omega, rd_at (show j < s.length by omega), rd_at (show j + 1 < s.length by omega)]
    have h1 := hs j (j + 1) (by omega) (by omega) (by omega)
    have h2 := h j (j + 1) (by omega) (by omega) (by omega)
    omega

/-- Can the seats be turned. -/
def canTurn (l : List Int) (i j : Int) : Bool := (l.all fun x => decide (0 ≤ x) && decide (x ≤ 11)) && (nodupB l && decide (0 ≤ i ∧ i ≤ j ∧ j < (l.length : Int)))
def part (l : List Int) (i m : Nat) : List Int := ((l.drop i).take m).reverse
def turnL (l : List Int) (i m : Nat) : List Int := l.take i ++ part l i m ++ l.drop (i + m)
/-- What both sides tell. -/
def tell (l : List Int) (i j : Int) : List Int × Bool := if canTurn l i j = true then (turnL l i.toNat (j + 1 - i).toNat, true) else ([], false)

theorem can_of {l : List Int} {i j : Int} (h : canTurn l i j = true) : (∀ x ∈ l, 0 ≤ x ∧ x ≤ 11) ∧ l.Nodup ∧ l.length ≤ 12 ∧ 0 ≤ i ∧ i ≤ j ∧ j < (l.length : Int) := by
  unfold canTurn at h
  simp only [Bool.and_eq_true, List.all_eq_true, decide_eq_true_eq, nodupB_iff] at h
  obtain ⟨h1, h2, h3⟩ := h
  have := nodup_len l (upToL 12) h2 (fun x hx => mem_upToL.2 (by have := h1 x hx; omega))
  rw [upToL_length] at this
  exact ⟨h1, h2, this, h3⟩

theorem impl_ev (l : List Int) (i j : Int) (h : l.length ≤ 1048576) : Ev (fun k => impl_TurnSeats.f k l i j) (tell l i j) := by
  unfold impl_TurnSeats.f
  refine ev_if (fun _ => ?_) (fun c => absurd (by omega) c)
  have hw : impl_areWithin.f l 0 11 = some (l.all fun x => decide (0 ≤ x) && decide (x ≤ 11)) := rfl
  have bad : canTurn l i j ≠ true → Ev (fun _ => some (([] : List Int), false)) (tell l i j) := by
    intro c
    unfold tell
    rw [if_neg c]; exact Ev.now _
  have can1 : canTurn l i j = true → (l.all fun x => decide (0 ≤ x) && decide (x ≤ 11)) = true ∧ nodupB l = true ∧ 0 ≤ i ∧ i ≤ j ∧ j < (l.length : Int) := by
    intro c
    unfold canTurn at c
    simp only [Bool.and_eq_true, decide_eq_true_eq] at c
    exact ⟨c.1, c.2.1, c.2.2⟩
  refine ev_bind0 hw ?_
  refine ev_if (fun c1 => ?_) (fun c1 => bad (fun c => c1 (can1 c).1))
  refine Ev.bind (isRising_ev (sortI l) (by rw [sortI_length]; omega)) ?_
  rw [rising_sort]
  refine ev_if (fun c2 => ?_) (fun c2 => bad (fun c => c2 (can1 c).2.1))
  refine ev_bind0 (within_eq i 0 j) ?_
  refine ev_if (fun c3 => ?_) (fun c3 => bad (fun c => c3 (by have := can1 c; simp only [Bool.and_eq_true, decide_eq_true_eq]; omega)))
  refine ev_bind0 (within_eq j 0 _) ?_
  rw [wrap_id (by omega) (by omega)]
  refine ev_if (fun c4 => ?_) (fun c4 => bad (fun c => c4 (by have := can1 c; simp only [Bool.and_eq_true, decide_eq_true_eq]; omega)))
  simp only [Bool.and_eq_true, decide_eq_true_eq] at c3 c4
  have ok : canTurn l i j = true := by
    unfold canTurn
    rw [c1, c2, decide_eq_true ⟨c3.1, c3.2, by omega⟩]; rfl
  unfold tell
  rw [if_pos ok]
  have ht : impl_turned.f l i j = some (turnL l i.toNat (j + 1 - i).toNat) := by
    unfold impl_turned.f
    rw [if_pos (by omega), if_pos ⟨c3.1, c3.2, by omega⟩]
    unfold turnL part
    rw [show (j + 1).toNat = i.toNat + (j + 1 - i).toNat by omega]
  exact ev_bind0 ht (Ev.now _)

theorem set_mid (A B C : List Int) (v : Int) (h : 0 < C.length) : (A ++ B ++ C).set (A.length + B.length) v = A ++ (B ++ [v]) ++ C.drop 1 := by
  cases C with
  | nil => simp at h
  | cons c C =>
    rw [List.set_append, if_neg (by rw [List.length_append]; omega), List.length_append, Nat.sub_self]
    simp

theorem taTurn_ev (l : List Int) (i m : Nat) (hm : i + m ≤ l.length) (h1 : 1 ≤ m) (h : l.length ≤ 1048576) : Ev (fun k => spec_taTurn.f k l (i : Int) ((i + m : Nat) - 1 : Int)) (turnL l i m) := by
  unfold spec_taTurn.f
  have ho : spec_l1Own.f l = some l := by
    unfold spec_l1Own.f
    rw [Option.bind_some, if_pos (by simp only [List.length_nil]; omega)]
    rfl
  refine ev_bind0 ho ?_
  have hp : (part l i m).length = m := by unfold part; rw [List.length_reverse, List.length_take, List.length_drop]; omega
  have hg : ∀ t, (ht : t < m) → rd l (((i + m - 1 - t : Nat) : Nat) : Int) = (part l i m)[t]'(by rw [hp]; exact ht) := by
    intro t ht
    rw [rd_at (show i + m - 1 - t < l.length by omega)]
    unfold part
    rw [List.getElem_reverse, List.getElem_take, List.getElem_drop]
    congr 1
    rw [List.length_take, List.length_drop]; omega
  have q := ev_up (n := m) (loop := fun k t => spec_taTurn.l0 k l (i : Int) ((i + m : Nat) - 1 : Int) (l.take i ++ (part l i m).take t ++ l.drop (i + t)) ((i + t : Nat) : Int)) (r := fun _ => turnL l i m)
    (Ev.step (f := fun _ => some (l.take i ++ (part l i m).take m ++ l.drop (i + m))) (fun k => by simp only [spec_taTurn.l0]; rw [if_neg (by omega)]) (by
      rw [show (part l i m).take m = part l i m from List.take_of_length_le (by omega)]
      exact Ev.now _))
    (fun t ht ih => by
      refine Ev.step (f := fun k => spec_taTurn.l0 k l (i : Int) ((i + m : Nat) - 1 : Int) (l.take i ++ (part l i m).take (t + 1) ++ l.drop (i + (t + 1))) ((i + (t + 1) : Nat) : Int)) (fun k => ?_) ih
      have hs : (l.take i ++ (part l i m).take t ++ l.drop (i + t)).length = l.length := by
        rw [List.length_append, List.length_append, List.length_take, List.length_take, List.length_drop, hp]; omega
      have e1 : wrap64 (wrap64 ((i : Int) + ((i + m : Nat) - 1 : Int)) - ((i + t : Nat) : Int)) = ((i + m - 1 - t : Nat) : Int) := by
        rw [wrap_id (x := (i : Int) + ((i + m : Nat) - 1 : Int)) (by omega) (by omega), wrap_id (by omega) (by omega)]; omega
      have e2 : wrap64 (((i + t : Nat) : Int) + 1) = ((i + (t + 1) : Nat) : Int) := by rw [wrap_id (by omega) (by omega)]; omega
      simp only [spec_taTurn.l0]
      rw [if_pos (by omega), e1, if_pos (by omega), if_pos (by omega), if_pos (by omega), if_pos (by rw [hs]; omega), e2, hg t ht, Int.toNat_natCast]
      congr 1
      have hA : (l.take i).length = i := by rw [List.length_take]; omega
      have hB : ((part l i m).take t).length = t := by rw [List.length_take]; omega
      have := set_mid (l.take i) ((part l i m).take t) (l.drop (i + t)) ((part l i m)[t]'(by omega)) (by rw [List.length_drop]; omega)
      rw [hA, hB, List.drop_drop] at this
      rw [this, List.take_succ_eq_append_getElem (by omega)]
      rfl) 0 (Nat.zero_le _)
  rw [List.take_zero, List.append_nil, Nat.add_zero, List.take_append_drop] at q
  exact q

theorem spec_ev (l : List Int) (i j : Int) (h : l.length ≤ 1048576) : Ev (fun k => spec_TurnSeats.f k l i j) (tell l i j) := by
  unfold spec_TurnSeats.f
  have bad : canTurn l i j ≠ true → Ev (fun k => spec_TurnSeats.j0 k l i j true) (tell l i j) := by
    intro c
    unfold tell
    rw [if_neg c]
    exact Ev.step (f := fun _ => some ([], false)) (fun k => by simp only [spec_TurnSeats.j0]; rfl) (Ev.now _)
  have can1 : canTurn l i j = true → (l.all fun x => decide (0 ≤ x) && decide (x ≤ 11)) = true ∧ nodupB l = true ∧ 0 ≤ i ∧ i ≤ j ∧ j < (l.length : Int) := by
    intro c
    unfold canTurn at c
    simp only [Bool.and_eq_true, decide_eq_true_eq] at c
    exact ⟨c.1, c.2.1, c.2.2⟩
  refine ev_if (fun c => bad (fun c1 => by have := can_of c1; omega)) (fun c0 => ?_)
  refine Ev.bind (l1All_ev l 0 11 (by omega)) ?_
  refine ev_if (fun c1 => ?_) (fun c1 => bad (fun c => c1 (can1 c).1))
  refine ev_bind0 (l1In_eq i 0 _) ?_
  rw [wrap_id (by omega) (by omega)]
  refine ev_if (fun c3 => ?_) (fun c3 => bad (fun c => c3 (by have := can1 c; simp only [Bool.and_eq_true, decide_eq_true_eq]; omega)))
  refine ev_bind0 (l1In_eq j i _) ?_
  simp only [Bool.and_eq_true, decide_eq_true_eq] at c3
  by_cases c4 : i ≤ j ∧ j ≤ (l.length : Int) - 1
  · rw [decide_eq_true c4.1, decide_eq_true c4.2]
    have hT : Ev (fun k => spec_taTurn.f k l i j) (turnL l i.toNat (j + 1 - i).toNat) := by
      have := taTurn_ev l i.toNat (j + 1 - i).toNat (by omega) (by omega) h
      rw [show ((i.toNat : Nat) : Int) = i by omega, show (((i.toNat + (j + 1 - i).toNat : Nat) : Int) - 1) = j by omega] at this
      exact this
    refine Ev.step (f := fun k => spec_TurnSeats.l0 k l i j l (l.length : Int) 0) (fun k => by simp only [spec_TurnSeats.j0]; rw [if_neg (by simp)]) ?_
    have q := ev_up (n := l.length) (loop := fun k a => spec_TurnSeats.l0 k l i j l (l.length : Int) (a : Int)) (r := fun a => if (((List.range l.length).drop a).all fun i => !(l.take i).contains (rd l (i : Int))) = true then (turnL l i.toNat (j + 1 - i).toNat, true) else ([], false))
      (Ev.step (f := fun k => (spec_taTurn.f k l i j).bind fun t => some (t, true)) (fun k => by simp only [spec_TurnSeats.l0]; rw [if_neg (by omega)]) (by
        rw [all_end _ (Nat.le_refl _), if_pos rfl]
        exact Ev.bind (f := fun _ t => some (t, true)) hT (Ev.now _)))
      (fun a ha ih => by
        rw [all_step _ ha]
        refine Ev.step (f := fun k => (spec_l1Has.f k (l.take a) (rd l (a : Int))).bind fun t => if t = true then some ([], false) else spec_TurnSeats.l0 k l i j l (l.length : Int) ((a + 1 : Nat) : Int)) (fun k => ?_) ?_
        · simp only [spec_TurnSeats.l0]
          rw [if_pos (by omega), if_pos (by omega), if_pos (by omega), if_pos (by omega), Int.toNat_natCast, succ_cast ha (by omega)]
        · refine Ev.bind (l1Has_ev _ _ (by rw [List.length_take]; omega)) ?_
          refine ev_if (fun c => ?_) (fun c => ?_)
          · rw [c]; exact Ev.now _
          · have c' : (l.take a).contains (rd l (a : Int)) = false := by simpa using c
            rw [c']; simpa using ih) 0 (Nat.zero_le _)
    have e : tell l i j = if (((List.range l.length).drop 0).all fun i => !(l.take i).contains (rd l (i : Int))) = true then (turnL l i.toNat (j + 1 - i).toNat, true) else ([], false) := by
      unfold tell canTurn
      rw [c1, decide_eq_true (show 0 ≤ i ∧ i ≤ j ∧ j < (l.length : Int) by omega), Bool.true_and, Bool.and_true]
      rfl
    rw [e]
    exact q
  · have e : (decide (i ≤ j) && decide (j ≤ (l.length : Int) - 1)) = false := by
      rw [Bool.eq_false_iff]
      intro q
      simp only [Bool.and_eq_true, decide_eq_true_eq] at q
      exact c4 q
    rw [e]
    exact bad (fun c => c4 (by have := can1 c; omega))

theorem tell_len (l : List Int) (i j : Int) : (tell l i j).1.length ≤ l.length := by
  unfold tell
  by_cases c : canTurn l i j = true
  · rw [if_pos c]
    obtain ⟨_, _, _, h0, h1, h2⟩ := can_of c
    show (turnL _ _ _).length ≤ _
    unfold turnL part
    rw [List.length_append, List.length_append, List.length_take, List.length_reverse, List.length_take, List.length_drop, List.length_drop]
    omega
  · rw [if_neg c]; simp

theorem FnExactTurnSeats : laws_FnExactTurnSeats.Pure := by
  intro l i j hm hl8 _ _ _
  refine Ev.rounds (g := fun k => laws_FnExactTurnSeats.f k l i j) ?_
  unfold laws_FnExactTurnSeats.f
  refine ev_if (fun _ => Ev.now _) (fun hb => ?_)
  have hs : l.length ≤ 1048576 := by omega
  have hT := toIntS_ev l (by omega)
  have hS := spec_ev l i j hs
  have hI := impl_ev l i j hs
  have hp := tell_len l i j
  generalize tell l i j = z at hS hI hp
  obtain ⟨ps, ok⟩ := z
  replace hp : ps.length ≤ l.length := hp
  have hE := eqIntS_ev ps (by omega)
  have hEL := eqIntS_ev l (by omega)
  refine Ev.bind hT ?_
  refine Ev.bind hS ?_
  refine Ev.bind hT ?_
  refine Ev.bind hI ?_
  refine Ev.bind hE ?_
  refine ev_if (fun _ => ?_) (fun h => absurd rfl h)
  have hneq : (ok != ok) = false := by simp
  show Ev (fun k => laws_FnExactTurnSeats.j0 k l i j ps ok l ps ok (ok != ok)) true
  rw [hneq]
  have j2 : Ev (fun k => laws_FnExactTurnSeats.j2 k (marksI 1 ps.length) (1 + (ps.length : Int)) false) true := by
    refine Ev.step (f := fun k => (laws_heldIntS.f k (marksI 1 ps.length) 1).bind fun t => if t < 0 then some false else if t = 1 + (ps.length : Int) then some true else some false) (fun k => ?_) ?_
    · simp only [laws_FnExactTurnSeats.j2]
      rfl
    · refine Ev.bind (heldIntS_ev _ 1 (by omega) (by omega) (by omega)) ?_
      exact ev_if (fun q => by omega) (fun _ => ev_if (fun _ => Ev.now _) (fun h => absurd rfl h))
  have j1 : Ev (fun k => laws_FnExactTurnSeats.j1 k l i j ps ok ps false) true := by
    refine Ev.step (f := fun k => (laws_markIntS.f k ps 1).bind fun bt536 => ((laws_heldIntS.f k bt536.2 1).bind fun t538 => (if t538 < 0 then (some false) else (if t538 = bt536.1 then ((laws_toIntS.f k l).bind fun t539 => ((impl_TurnSeats.f k t539 i j).bind fun bt542 => ((laws_eqIntS.f k bt542.1 ps).bind fun t546 => (if t546 = true then (laws_FnExactTurnSeats.j2 k bt536.2 bt536.1 (bt542.2 != ok)) else (laws_FnExactTurnSeats.j2 k bt536.2 bt536.1 true))))) else (some false))))) (fun k => ?_) ?_
    · simp only [laws_FnExactTurnSeats.j1]
      rfl
    · refine Ev.bind (markIntS_ev ps 1 (by omega) (by omega) (by omega)) ?_
      refine Ev.bind (heldIntS_ev _ 1 (by omega) (by omega) (by omega)) ?_
      refine ev_if (fun q => by omega) (fun _ => ev_if (fun _ => ?_) (fun h => absurd rfl h))
      refine Ev.bind hT ?_
      refine Ev.bind hI ?_
      refine Ev.bind hE ?_
      refine ev_if (fun _ => ?_) (fun h => absurd rfl h)
      show Ev (fun k => laws_FnExactTurnSeats.j2 k (marksI 1 ps.length) (1 + (ps.length : Int)) (ok != ok)) true
      rw [hneq]
      exact j2
  refine Ev.step (f := fun k => (laws_toIntS.f k l).bind fun t529 => ((laws_eqIntS.f k l t529).bind fun t532 => (if t532 = true then ((laws_markIntS.f k l 1).bind fun bt533 => (if bt533.1 < 0 then (laws_FnExactTurnSeats.j1 k l i j ps ok ps true) else ((laws_eqIntS.f k ps ps).bind fun t535 => (if t535 = true then (laws_FnExactTurnSeats.j1 k l i j ps ok ps (ok != ok)) else (laws_FnExactTurnSeats.j1 k l i j ps ok ps true))))) else (some false)))) (fun k => ?_) ?_
  · simp only [laws_FnExactTurnSeats.j0]
    rfl
  · refine Ev.bind hT ?_
    refine Ev.bind hEL ?_
    refine ev_if (fun _ => ?_) (fun h => absurd rfl h)
    refine Ev.bind (markIntS_ev l 1 (by omega) (by omega) (by omega)) ?_
    refine ev_if (fun (q : 1 + (l.length : Int) < 0) => by omega) (fun _ => ?_)
    refine Ev.bind hE ?_
    refine ev_if (fun _ => ?_) (fun h => absurd rfl h)
    rw [hneq]
    exact j1
end Go.Proofs.Ytnnmnliebjpgiaa.Pure
