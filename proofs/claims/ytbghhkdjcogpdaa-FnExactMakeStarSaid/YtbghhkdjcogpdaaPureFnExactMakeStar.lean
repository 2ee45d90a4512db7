import Derived.Test.YtbghhkdjcogpdaaQ0
import Derived.Test.YtbghhkdjcogpdaaQ7
import Derived.Test.YtbghhkdjcogpdaaQ9
import Derived.Test.YtbghhkdjcogpdaaQ15
/- Plain lemmas over rounds, lists and whole numbers, for the pure statements of this seat. No condition. -/
namespace Go.Proofs.Ytbghhkdjcogpdaa.Plain
open Go.RowKit Go.Proofs.YtbghhkdjcogpdaaW.PrintWords Go.Proofs.YtbghhkdjcogpdaaW.PrintLast
set_option linter.unusedVariables false

theorem wrap_id {x : Int} (h0 : -9223372036854775808 ≤ x) (h1 : x ≤ 9223372036854775807) : wrap64 x = x := by
  unfold wrap64
  omega

theorem rd_at {l : List Int} {i : Nat} (h : i < l.length) : rd l (i : Int) = l[i] := by
  simp [rd, List.getD, h]

theorem ev_bind0 {α β : Type} {g : Option α} {f : Nat → α → Option β} {a : α} {r : β} (h : g = some a) (k : Ev (fun n => f n a) r) : Ev (fun n => g.bind (f n)) r := by
  obtain ⟨K, hK⟩ := k
  refine ⟨K, fun n hn => ?_⟩
  show g.bind (f n) = some r
  rw [h]
  exact hK n hn

theorem ev_if {α : Type} {c : Prop} [Decidable c] {f g : Nat → Option α} {r : α} (hf : c → Ev f r) (hg : ¬ c → Ev g r) : Ev (fun n => if c then f n else g n) r := by
  by_cases h : c
  · obtain ⟨K, hK⟩ := hf h
    exact ⟨K, fun n hn => (if_pos h).trans (hK n hn)⟩
  · obtain ⟨K, hK⟩ := hg h
    exact ⟨K, fun n hn => (if_neg h).trans (hK n hn)⟩

/-- A loop over an index, from any index on, in one shape. -/
theorem ev_up {α : Type} {n : Nat} {loop : Nat → Nat → Option α} {r : Nat → α} (hend : Ev (fun k => loop k n) (r n)) (hstep : ∀ i, i < n → (Ev (fun k => loop k (i + 1)) (r (i + 1)) → Ev (fun k => loop k i) (r i))) :
    ∀ i, i ≤ n → Ev (fun k => loop k i) (r i) := by
  intro i hi
  have : ∀ d i, i ≤ n → n - i = d → Ev (fun k => loop k i) (r i) := by
    intro d
    induction d with
    | zero =>
      intro i hi hd
      have e : i = n := by omega
      rw [e]; exact hend
    | succ d ih =>
      intro i hi hd
      exact hstep i (by omega) (ih (i + 1) (by omega) (by omega))
  exact this (n - i) i hi rfl
theorem succ_cast {i n : Nat} (h : i < n) (hn : n ≤ 9223372036854775807) : wrap64 ((i : Int) + 1) = ((i + 1 : Nat) : Int) := by
  rw [wrap_id (by omega) (by omega)]; rfl
end Go.Proofs.Ytbghhkdjcogpdaa.Plain

/- The law's own functions over lists of whole numbers: copies, equality, bounds. No condition but lengths that fit. -/
namespace Go.Proofs.Ytbghhkdjcogpdaa.Plain
open Go.RowKit Go.Proofs.YtbghhkdjcogpdaaW.PrintWords Go.Proofs.YtbghhkdjcogpdaaW.PrintLast
set_option linter.unusedVariables false
open Q

theorem eqIntS_ev (l : List Int) (h : l.length ≤ 9223372036854775807) : Ev (fun k => laws_eqIntS.f k l l) true := by
  refine Ev.congr (f := fun k => laws_eqIntS.l0 k l l 0) (fun k => ?_) ?_
  · unfold laws_eqIntS.f
    rw [if_pos rfl]
  · exact ev_up (n := l.length) (loop := fun k i => laws_eqIntS.l0 k l l (i : Int)) (r := fun _ => true)
      (Ev.step (f := fun _ => some true) (fun k => by simp [laws_eqIntS.l0]) (Ev.now true))
      (fun i hi ih => Ev.step (f := fun k => laws_eqIntS.l0 k l l ((i + 1 : Nat) : Int)) (fun k => by
        simp only [laws_eqIntS.l0]
        rw [if_pos (by omega), if_pos (by omega), if_pos (by omega), if_pos trivial, succ_cast hi h]) ih) 0 (Nat.zero_le _)

theorem l1In_eq (a b c : Int) : spec_l1In.f a b c = some (decide (b ≤ a) && decide (a ≤ c)) := by
  unfold spec_l1In.f
  by_cases h : b ≤ a <;> simp [h]

theorem within_eq (a b c : Int) : impl_within.f a b c = some (decide (b ≤ a) && decide (a ≤ c)) := by
  unfold impl_within.f
  by_cases h : b ≤ a <;> simp [h]

end Go.Proofs.Ytbghhkdjcogpdaa.Plain

/- Is a number in a list: the reference's way. No condition but a length that fits. -/
namespace Go.Proofs.Ytbghhkdjcogpdaa.Plain
open Go.RowKit Go.Proofs.YtbghhkdjcogpdaaW.PrintWords Go.Proofs.YtbghhkdjcogpdaaW.PrintLast
set_option linter.unusedVariables false
open Q

theorem l1Has_ev (l : List Int) (a : Int) (h : l.length ≤ 9223372036854775807) : Ev (fun k => spec_l1Has.f k l a) (l.contains a) := by
  have q := ev_up (n := l.length) (loop := fun k i => spec_l1Has.l0 k a l (l.length : Int) (i : Int)) (r := fun i => (l.drop i).contains a)
    (Ev.step (f := fun _ => some false) (fun k => by simp [spec_l1Has.l0]) (by simpa using Ev.now false))
    (fun i hi ih => by
      rw [List.drop_eq_getElem_cons hi, List.contains_cons]
      by_cases e : l[i] = a
      · refine Ev.step (f := fun _ => some true) (fun k => ?_) (by rw [e]; simpa using Ev.now true)
        simp only [spec_l1Has.l0]
        rw [if_pos (by omega), if_pos (by omega), if_pos (by omega), rd_at hi, if_pos e]
      · refine Ev.step (f := fun k => spec_l1Has.l0 k a l (l.length : Int) ((i + 1 : Nat) : Int)) (fun k => ?_) ?_
        · simp only [spec_l1Has.l0]
          rw [if_pos (by omega), if_pos (by omega), if_pos (by omega), rd_at hi, if_neg e, succ_cast hi h]
        · have : (a == l[i]) = false := by simpa using fun q => e q.symm
          rw [this, Bool.false_or]; exact ih) 0 (Nat.zero_le _)
  simpa [spec_l1Has.f] using q
end Go.Proofs.Ytbghhkdjcogpdaa.Plain

/- Parties: both sides' tests, and the law's own functions over parties. No condition but lengths that fit. -/
namespace Go.Proofs.Ytbghhkdjcogpdaa.Plain
open Go.RowKit Go.Proofs.YtbghhkdjcogpdaaW.PrintWords Go.Proofs.YtbghhkdjcogpdaaW.PrintLast
set_option linter.unusedVariables false
open Q

/-! What a party is, in words of numbers. -/
end Go.Proofs.Ytbghhkdjcogpdaa.Plain

/- A party as a relation between people; sets of people as numbers; how many hold. Plain lemmas. No condition. -/
namespace Go.Proofs.Ytbghhkdjcogpdaa.Plain
open Go.RowKit Go.Proofs.YtbghhkdjcogpdaaW.PrintWords Go.Proofs.YtbghhkdjcogpdaaW.PrintLast
set_option linter.unusedVariables false
open Q

/-! Sets of people as numbers. -/
/-! How many hold. -/
end Go.Proofs.Ytbghhkdjcogpdaa.Plain

/- The program's table of a party: for each person its friends, as the bits of a number. No condition but lengths that fit. -/
namespace Go.Proofs.Ytbghhkdjcogpdaa.Plain
open Go.RowKit Go.Proofs.YtbghhkdjcogpdaaW.PrintWords Go.Proofs.YtbghhkdjcogpdaaW.PrintLast
set_option linter.unusedVariables false
open Q

end Go.Proofs.Ytbghhkdjcogpdaa.Plain

/- The places at which a test holds, as a list. No condition. -/
namespace Go.Proofs.Ytbghhkdjcogpdaa.Plain
open Go.RowKit Go.Proofs.YtbghhkdjcogpdaaW.PrintWords Go.Proofs.YtbghhkdjcogpdaaW.PrintLast
set_option linter.unusedVariables false
open Q

end Go.Proofs.Ytbghhkdjcogpdaa.Plain

/- A number put into a rising list; two rising lists merged. No condition. -/
namespace Go.Proofs.Ytbghhkdjcogpdaa.Plain
open Go.RowKit Go.Proofs.YtbghhkdjcogpdaaW.PrintWords Go.Proofs.YtbghhkdjcogpdaaW.PrintLast
set_option linter.unusedVariables false
open Q

def insI : List Int → Int → List Int
  | [], x => [x]
  | y :: l, x => if y < x then y :: insI l x else if y = x then y :: l else x :: y :: l
theorem insI_length : ∀ (l : List Int) (x : Int), (insI l x).length ≤ l.length + 1
  | [], x => by simp [insI]
  | y :: l, x => by
    unfold insI
    by_cases c : y < x
    · rw [if_pos c, List.length_cons, List.length_cons]; have := insI_length l x; omega
    · rw [if_neg c]
      by_cases d : y = x
      · rw [if_pos d]; omega
      · rw [if_neg d]; simp

end Go.Proofs.Ytbghhkdjcogpdaa.Plain

/- The law's own functions over lists of lists of whole numbers. No condition but lengths that fit. -/
namespace Go.Proofs.Ytbghhkdjcogpdaa.Plain
open Go.RowKit Go.Proofs.YtbghhkdjcogpdaaW.PrintWords Go.Proofs.YtbghhkdjcogpdaaW.PrintLast
set_option linter.unusedVariables false
open Q

theorem rdL_at {l : List (List Int)} {i : Nat} (h : i < l.length) : rd_L1 l (i : Int) = l[i] := by
  simp [rd_L1, List.getD, h]

theorem eqIntSS_ev (l : List (List Int)) (h : l.length ≤ 9223372036854775807) (hx : ∀ x ∈ l, x.length ≤ 9223372036854775807) : Ev (fun k => laws_eqIntSS.f k l l) true := by
  refine Ev.congr (f := fun k => laws_eqIntSS.l0 k l l 0) (fun k => ?_) ?_
  · unfold laws_eqIntSS.f
    rw [if_pos rfl]
  · exact ev_up (n := l.length) (loop := fun k i => laws_eqIntSS.l0 k l l (i : Int)) (r := fun _ => true)
      (Ev.step (f := fun _ => some true) (fun k => by simp [laws_eqIntSS.l0]) (Ev.now true))
      (fun i hi ih => by
        refine Ev.step (f := fun k => (laws_eqIntS.f k l[i] l[i]).bind fun t => if t = true then laws_eqIntSS.l0 k l l ((i + 1 : Nat) : Int) else some false) (fun k => ?_) ?_
        · simp only [laws_eqIntSS.l0]
          rw [if_pos (by omega), if_pos (by omega), if_pos (by omega), rdL_at hi, succ_cast hi h]
        · refine Ev.bind (eqIntS_ev l[i] (hx _ (List.getElem_mem hi))) ?_
          exact ev_if (fun _ => ih) (fun h => absurd rfl h)) 0 (Nat.zero_le _)
end Go.Proofs.Ytbghhkdjcogpdaa.Plain

/- Is a list of pairs a list of calls, on both sides. No condition but a length that fits. -/
namespace Go.Proofs.Ytbghhkdjcogpdaa.Plain
open Go.RowKit Go.Proofs.YtbghhkdjcogpdaaW.PrintWords Go.Proofs.YtbghhkdjcogpdaaW.PrintLast
set_option linter.unusedVariables false
open Q

end Go.Proofs.Ytbghhkdjcogpdaa.Plain

/- What each knows behind a row of calls: both sides hold it, the program as bits, the reference as rising lists. No condition but calls among n people. -/
namespace Go.Proofs.Ytbghhkdjcogpdaa.Plain
open Go.RowKit Go.Proofs.YtbghhkdjcogpdaaW.PrintWords Go.Proofs.YtbghhkdjcogpdaaW.PrintLast
set_option linter.unusedVariables false
open Q

/-! ### The program's side -/
/-! ### The reference's side -/
theorem put_ev (l : List Int) (x : Int) (h : l.length ≤ 1000) : Ev (fun k => spec_l1Put.f k l x) (insI l x) := by
  have key : ∀ d i, l.length - i = d → i ≤ l.length → Ev (fun k => spec_l1Put.l0 k l x (i : Int)) (l.take i ++ insI (l.drop i) x) := by
    intro d
    induction d with
    | zero =>
      intro i hd hi
      obtain rfl : i = l.length := by omega
      refine Ev.step (f := fun _ => some (l ++ [x])) (fun k => ?_) ?_
      · simp only [spec_l1Put.l0]
        rw [if_neg (by omega), Option.bind_some, if_pos (by omega), if_pos (by omega), Option.bind_some, Int.toNat_natCast, List.take_length, if_pos (by simp only [List.length_nil]; omega), Option.bind_some, if_pos (by simp; omega), Option.bind_some, List.drop_length, Option.bind_some, if_pos (by simp; omega)]
        simp
      · rw [List.take_length, List.drop_length]; exact Ev.now _
    | succ d ih =>
      intro i hd hi
      have hi' : i < l.length := by omega
      rw [List.drop_eq_getElem_cons hi']
      unfold insI
      by_cases c : l[i] < x
      · rw [if_pos c]
        refine Ev.step (f := fun k => spec_l1Put.l0 k l x ((i + 1 : Nat) : Int)) (fun k => ?_) ?_
        · simp only [spec_l1Put.l0]
          rw [if_pos (by omega), if_pos (by omega), rd_at hi', if_pos c, succ_cast hi' (by omega)]
        · have := ih (i + 1) (by omega) (by omega)
          rw [List.take_succ_eq_append_getElem hi', List.append_assoc] at this
          exact this
      · rw [if_neg c]
        by_cases e : l[i] = x
        · rw [if_pos e, ← List.drop_eq_getElem_cons hi', List.take_append_drop]
          refine Ev.step (f := fun _ => some l) (fun k => ?_) (Ev.now _)
          simp only [spec_l1Put.l0]
          rw [if_pos (by omega), if_pos (by omega), rd_at hi', if_neg c, if_pos e]
        · rw [if_neg e, ← List.drop_eq_getElem_cons hi']
          refine Ev.step (f := fun _ => some (l.take i ++ x :: l.drop i)) (fun k => ?_) (Ev.now _)
          simp only [spec_l1Put.l0]
          rw [if_pos (by omega), if_pos (by omega), rd_at hi', if_neg c, if_neg e, Option.bind_some, if_pos (by omega), Option.bind_some, Int.toNat_natCast, if_pos (by simp; omega), Option.bind_some, if_pos (by simp; omega), Option.bind_some, Option.bind_some, if_pos (by simp; omega)]
          simp
  have := key _ 0 rfl (Nat.zero_le _)
  rw [List.take_zero, List.nil_append, List.drop_zero] at this
  exact this

/-! ### Calls, as numbers -/
end Go.Proofs.Ytbghhkdjcogpdaa.Plain

/- Lists that hold each number less than n once: both sides' tests tell the same. No condition. -/
namespace Go.Proofs.Ytbghhkdjcogpdaa.Plain
open Go.RowKit Go.Proofs.YtbghhkdjcogpdaaW.PrintWords Go.Proofs.YtbghhkdjcogpdaaW.PrintLast
set_option linter.unusedVariables false
open Q

abbrev sortI (l : List Int) : List Int := l.mergeSort fun x y => decide (x ≤ y)
theorem sortI_perm (l : List Int) : (sortI l).Perm l := List.mergeSort_perm _ _
theorem sortI_pairwise (l : List Int) : (sortI l).Pairwise (fun a b => a ≤ b) := by
  have := List.pairwise_mergeSort (le := fun x y : Int => decide (x ≤ y)) (fun a b c h1 h2 => by simp only [decide_eq_true_eq] at *; omega) (fun a b => by simp only [Bool.or_eq_true, decide_eq_true_eq]; omega) l
  exact this.imp (fun h => by simpa using h)
theorem sorted_unique {l m : List Int} (h1 : l.Pairwise (fun a b => a ≤ b)) (h2 : m.Pairwise (fun a b => a ≤ b)) (h : l.Perm m) : l = m :=
  List.Perm.eq_of_pairwise (le := fun a b : Int => a ≤ b) (fun a b _ _ h1 h2 => by omega) h1 h2 h
end Go.Proofs.Ytbghhkdjcogpdaa.Plain

/- The laws' marks: written into a list and found again. No condition but a length that fits. -/
namespace Go.Proofs.Ytbghhkdjcogpdaa.Plain
open Go.RowKit Go.Proofs.YtbghhkdjcogpdaaW.PrintWords Go.Proofs.YtbghhkdjcogpdaaW.PrintLast
set_option linter.unusedVariables false
open Q

/-- The marks of n numbers from v on. -/
def marksI (v : Int) (n : Nat) : List Int := (List.range n).map fun i : Nat => v + (i : Int)
theorem marksI_length (v : Int) (n : Nat) : (marksI v n).length = n := by simp [marksI]
theorem marksI_get {v : Int} {n i : Nat} (h : i < (marksI v n).length) : (marksI v n)[i] = v + (i : Int) := by simp [marksI]

theorem marksI_step (v : Int) (l : List Int) {i : Nat} (hi : i < l.length) : (marksI v i ++ l.drop i).set i (v + (i : Int)) = marksI v (i + 1) ++ l.drop (i + 1) := by
  apply List.ext_getElem
  · simp [marksI_length]; omega
  · intro j h1 h2
    rw [List.getElem_set]
    by_cases e : i = j
    · subst e
      rw [if_pos rfl, List.getElem_append_left (by rw [marksI_length]; omega), marksI_get]
    · rw [if_neg e]
      by_cases c : j < i
      · rw [List.getElem_append_left (by rw [marksI_length]; omega), List.getElem_append_left (by rw [marksI_length]; omega), marksI_get, marksI_get]
      · rw [List.getElem_append_right (by rw [marksI_length]; omega), List.getElem_append_right (by rw [marksI_length]; omega), List.getElem_drop, List.getElem_drop]
        congr 1
        rw [marksI_length, marksI_length]
        omega

theorem markIntS_ev (l : List Int) (v : Int) (h : l.length ≤ 1152921504606846976) (h0 : 0 ≤ v) (h1 : v ≤ 1152921504606846976) : Ev (fun k => laws_markIntS.f k l v) (v + (l.length : Int), marksI v l.length) := by
  have q := ev_up (n := l.length) (loop := fun k i => laws_markIntS.l0 k (marksI v i ++ l.drop i) (v + (i : Int)) (i : Int)) (r := fun _ => (v + (l.length : Int), marksI v l.length))
    (by
      refine Ev.step (f := fun _ => some (v + (l.length : Int), marksI v l.length)) (fun k => ?_) (Ev.now _)
      simp only [laws_markIntS.l0]
      rw [List.drop_length, List.append_nil, if_neg (by rw [marksI_length]; omega)])
    (fun i hi ih => by
      have hlen : (marksI v i ++ l.drop i).length = l.length := by rw [List.length_append, marksI_length, List.length_drop]; omega
      have w1 : wrap64 (v + (i : Int) + 1) = v + ((i + 1 : Nat) : Int) := by rw [wrap_id (by omega) (by omega)]; omega
      refine Ev.step (f := fun k => laws_markIntS.l0 k (marksI v (i + 1) ++ l.drop (i + 1)) (v + ((i + 1 : Nat) : Int)) ((i + 1 : Nat) : Int)) (fun k => ?_) ih
      simp only [laws_markIntS.l0]
      rw [if_pos (by rw [hlen]; omega), if_pos (by omega), w1, succ_cast hi (by omega), Int.toNat_natCast, marksI_step v l hi]) 0 (Nat.zero_le _)
  have e : marksI v 0 ++ l.drop 0 = l := by simp [marksI]
  rw [e] at q
  simpa [laws_markIntS.f] using q

theorem heldIntS_ev (n : Nat) (v : Int) (h : n ≤ 1152921504606846976) (h0 : 0 ≤ v) (h1 : v ≤ 1152921504606846976) : Ev (fun k => laws_heldIntS.f k (marksI v n) v) (v + (n : Int)) := by
  have hl := marksI_length v n
  have q := ev_up (n := n) (loop := fun k i => laws_heldIntS.l0 k (marksI v n) (v + (i : Int)) (i : Int)) (r := fun _ => v + (n : Int))
    (Ev.step (f := fun _ => some (v + (n : Int))) (fun k => by simp only [laws_heldIntS.l0]; rw [if_neg (by rw [hl]; omega)]) (Ev.now _))
    (fun i hi ih => by
      have w1 : wrap64 (v + (i : Int) + 1) = v + ((i + 1 : Nat) : Int) := by rw [wrap_id (by omega) (by omega)]; omega
      refine Ev.step (f := fun k => laws_heldIntS.l0 k (marksI v n) (v + ((i + 1 : Nat) : Int)) ((i + 1 : Nat) : Int)) (fun k => ?_) ih
      simp only [laws_heldIntS.l0]
      rw [if_pos (by rw [hl]; omega), if_pos (by omega), rd_at (by rw [hl]; exact hi), marksI_get, if_pos rfl, w1, succ_cast hi (by omega)]) 0 (Nat.zero_le _)
  simpa [laws_heldIntS.f] using q

end Go.Proofs.Ytbghhkdjcogpdaa.Plain

/- The laws' marks over rows of rows: written and found again. No condition but sizes that fit. -/
namespace Go.Proofs.Ytbghhkdjcogpdaa.Plain
open Go.RowKit Go.Proofs.YtbghhkdjcogpdaaW.PrintWords Go.Proofs.YtbghhkdjcogpdaaW.PrintLast
set_option linter.unusedVariables false
open Q

def totR : List (List Int) → Nat
  | [] => 0
  | r :: l => r.length + totR l
def markRows : Int → List (List Int) → List (List Int)
  | _, [] => []
  | v, r :: l => marksI v r.length :: markRows (v + (r.length : Int)) l
theorem markIntSS_at : ∀ (l p : List (List Int)) (v : Int), 0 ≤ v → v + (totR l : Int) ≤ 1152921504606846976 → p.length + l.length ≤ 1152921504606846976 →
    Ev (fun k => laws_markIntSS.l0 k (p ++ l) v (p.length : Int)) (v + (totR l : Int), p ++ markRows v l)
  | [], p, v, h0, h1, h2 => by
    refine Ev.step (f := fun _ => some (v, p)) (fun k => ?_) (by simpa [totR, markRows] using Ev.now (v, p))
    simp only [laws_markIntSS.l0]
    rw [if_neg (by simp), List.append_nil]
  | r :: l, p, v, h0, h1, h2 => by
    simp only [totR] at h1
    simp only [List.length_cons] at h2
    have ih := markIntSS_at l (p ++ [marksI v r.length]) (v + (r.length : Int)) (by omega) (by omega) (by rw [List.length_append, List.length_singleton]; omega)
    rw [List.length_append, List.length_singleton, List.append_assoc, List.append_assoc, List.singleton_append, List.singleton_append] at ih
    refine Ev.step (f := fun k => (laws_markIntS.f k r v).bind fun t => laws_markIntSS.l0 k (p ++ t.2 :: l) t.1 ((p.length + 1 : Nat) : Int)) (fun k => ?_) ?_
    · simp only [laws_markIntSS.l0]
      rw [if_pos (by rw [List.length_append, List.length_cons]; omega), if_pos (by omega), Int.toNat_natCast, wrap_id (by omega) (by omega)]
      have e1 : (p ++ r :: l).getD p.length [] = r := by simp
      rw [e1]
      congr 1
      funext t
      rw [show ((p.length : Int) + 1) = ((p.length + 1 : Nat) : Int) by omega]
      congr 1
      simp
    · refine Ev.bind (markIntS_ev r v (by omega) h0 (by omega)) ?_
      simp only [totR, markRows]
      rw [show v + ((r.length + totR l : Nat) : Int) = v + (r.length : Int) + (totR l : Int) by omega]
      exact ih
theorem markIntSS_ev (l : List (List Int)) (h : totR l ≤ 1048576) (h2 : l.length ≤ 1048576) : Ev (fun k => laws_markIntSS.f k l 1) (1 + (totR l : Int), markRows 1 l) := by
  have := markIntSS_at l [] 1 (by omega) (by omega) (by rw [List.length_nil]; omega)
  simpa [laws_markIntSS.f] using this
theorem heldIntSS_at : ∀ (l p : List (List Int)) (v : Int), 0 ≤ v → v + (totR l : Int) ≤ 1152921504606846976 → p.length + l.length ≤ 1152921504606846976 →
    Ev (fun k => laws_heldIntSS.l0 k (p ++ markRows v l) v (p.length : Int)) (v + (totR l : Int))
  | [], p, v, h0, h1, h2 => by
    refine Ev.step (f := fun _ => some v) (fun k => ?_) (by simpa [totR] using Ev.now v)
    simp only [laws_heldIntSS.l0]
    rw [if_neg (by simp [markRows])]
  | r :: l, p, v, h0, h1, h2 => by
    simp only [totR] at h1
    simp only [List.length_cons] at h2
    have ih := heldIntSS_at l (p ++ [marksI v r.length]) (v + (r.length : Int)) (by omega) (by omega) (by rw [List.length_append, List.length_singleton]; omega)
    rw [List.length_append, List.length_singleton, List.append_assoc, List.singleton_append] at ih
    show Ev (fun k => laws_heldIntSS.l0 k (p ++ marksI v r.length :: markRows (v + (r.length : Int)) l) v (p.length : Int)) (v + (totR (r :: l) : Int))
    refine Ev.step (f := fun k => (laws_heldIntS.f k (marksI v r.length) v).bind fun t => if t < 0 then some (-1) else laws_heldIntSS.l0 k (p ++ marksI v r.length :: markRows (v + (r.length : Int)) l) t ((p.length + 1 : Nat) : Int)) (fun k => ?_) ?_
    · simp only [laws_heldIntSS.l0]
      rw [if_pos (by rw [List.length_append, List.length_cons]; omega), if_pos (by omega), rdL_at (by rw [List.length_append, List.length_cons]; omega), wrap_id (by omega) (by omega)]
      rw [List.getElem_append_right (Nat.le_refl _)]
      simp
    · refine Ev.bind (heldIntS_ev r.length v (by omega) h0 (by omega)) ?_
      refine ev_if (fun q => by omega) (fun _ => ?_)
      simp only [totR]
      rw [show v + ((r.length + totR l : Nat) : Int) = v + (r.length : Int) + (totR l : Int) by omega]
      exact ih
theorem heldIntSS_ev (l : List (List Int)) (h : totR l ≤ 1048576) (h2 : l.length ≤ 1048576) : Ev (fun k => laws_heldIntSS.f k (markRows 1 l) 1) (1 + (totR l : Int)) := by
  have := heldIntSS_at l [] 1 (by omega) (by omega) (by rw [List.length_nil]; omega)
  simpa [laws_heldIntSS.f] using this
end Go.Proofs.Ytbghhkdjcogpdaa.Plain
/- The program's MakeStar returns what the reference's returns, for all arguments. No condition. -/
namespace Go.Proofs.Ytbghhkdjcogpdaa.Pure
open Go.RowKit Go.Proofs.YtbghhkdjcogpdaaW.PrintWords Go.Proofs.YtbghhkdjcogpdaaW.PrintLast
set_option linter.unusedVariables false
open Q Plain

theorem totR_le : ∀ (l : List (List Int)) (m : Nat), (∀ x ∈ l, x.length ≤ m) → totR l ≤ l.length * m
  | [], m, _ => by simp [totR]
  | r :: l, m, h => by
    have h1 := h r (by simp)
    have h2 := totR_le l m (fun x hx => h x (by simp [hx]))
    simp only [totR, List.length_cons]
    rw [Nat.succ_mul]
    omega

/-- One row of the star. -/
def rowM (m s a : Nat) : List Int := if a = s then [] else if (a + 1) % m = s then [(s : Int)] else insI [(s : Int)] (((a + 1) % m : Nat) : Int)
def rowsM (m s i : Nat) : List (List Int) := (List.range m).map fun a => if a < i then rowM m s a else []
theorem rowsM_length (m s i : Nat) : (rowsM m s i).length = m := by simp [rowsM]
theorem rowsM_zero (m s : Nat) : rowsM m s 0 = List.replicate m [] := by
  apply List.ext_getElem
  · simp [rowsM]
  · intro j h1 h2; simp [rowsM]
theorem rowsM_set {m s i : Nat} (hi : i < m) : (rowsM m s i).set i (rowM m s i) = rowsM m s (i + 1) := by
  apply List.ext_getElem
  · simp [rowsM]
  · intro j h1 h2
    rw [List.getElem_set]
    by_cases c : i = j
    · subst c; rw [if_pos rfl]; simp [rowsM]
    · rw [if_neg c]
      simp only [rowsM, List.getElem_map, List.getElem_range]
      by_cases d : j < i
      · rw [if_pos d, if_pos (by omega)]
      · rw [if_neg d, if_neg (by omega)]
theorem rowsM_skip {m s i : Nat} (h : i = s) : rowsM m s i = rowsM m s (i + 1) := by
  unfold rowsM
  apply List.map_congr_left
  intro j _
  by_cases d : j < i
  · rw [if_pos d, if_pos (by omega)]
  · rw [if_neg d]
    by_cases e : j = i
    · rw [if_pos (by omega), rowM, if_pos (by omega)]
    · rw [if_neg (by omega)]
theorem take_rowsM {m s i : Nat} (hi : i < m) : (rowsM m s m).take i ++ [rowM m s i] = (rowsM m s m).take (i + 1) := by
  rw [List.take_succ_eq_append_getElem (by rw [rowsM_length]; exact hi)]
  simp [rowsM, hi]
theorem rowM_length (m s a : Nat) : (rowM m s a).length ≤ 2 := by
  unfold rowM
  by_cases c : a = s
  · rw [if_pos c]; simp
  · rw [if_neg c]
    by_cases d : (a + 1) % m = s
    · rw [if_pos d]; simp
    · rw [if_neg d]
      have := insI_length [(s : Int)] (((a + 1) % m : Nat) : Int)
      simpa using this
theorem compact_two (a b : Int) : Go.Lib.compact [a, b] = if b = a then [a] else [a, b] := by
  by_cases c : b = a
  · rw [if_pos c]; subst c; simp [Go.Lib.compact, Go.Lib.compactUpTo, Go.Lib.keeps, List.range_succ]
  · rw [if_neg c]; simp [Go.Lib.compact, Go.Lib.compactUpTo, Go.Lib.keeps, List.range_succ, c]
theorem two_rising {a b : Int} (h : a ≤ b) : sortI [a, b] = [a, b] :=
  sorted_unique (sortI_pairwise _) (by simp [h]) (sortI_perm _)
theorem two_turned {a b : Int} (h : b ≤ a) : sortI [a, b] = [b, a] :=
  sorted_unique (sortI_pairwise _) (by simp [h]) ((sortI_perm _).trans (List.Perm.swap _ _ _))
theorem two_row (a b : Int) : Go.Lib.compact ([a, b].mergeSort fun x y => decide (x ≤ y)) = if b = a then [a] else insI [a] b := by
  show Go.Lib.compact (sortI [a, b]) = _
  by_cases c : b = a
  · rw [if_pos c, two_rising (by omega), compact_two, if_pos c]
  · rw [if_neg c]
    by_cases d : a ≤ b
    · rw [two_rising d, compact_two, if_neg c]
      simp only [insI]
      rw [if_pos (by omega)]
    · rw [two_turned (by omega), compact_two, if_neg (by omega)]
      simp only [insI]
      rw [if_neg (by omega), if_neg (by omega)]
theorem next_cast {m i : Nat} (hm : 1 ≤ m) (hm2 : m ≤ 12) (hi : i < m) : Int.tmod (wrap64 ((i : Int) + 1)) (m : Int) = (((i + 1) % m : Nat) : Int) := by
  rw [succ_cast hi (by omega)]
  exact (Int.ofNat_tmod (i + 1) m).symm
def tell (n s : Int) : List (List Int) × Bool := if (1 ≤ n ∧ n ≤ 12) ∧ 0 ≤ s ∧ s < n then (rowsM n.toNat s.toNat n.toNat, true) else ([], false)
theorem tell_len (n s : Int) : (tell n s).1.length ≤ 12 ∧ (∀ x ∈ (tell n s).1, x.length ≤ 12) := by
  unfold tell
  by_cases p : (1 ≤ n ∧ n ≤ 12) ∧ 0 ≤ s ∧ s < n
  · rw [if_pos p]
    refine ⟨by rw [rowsM_length]; omega, fun x hx => ?_⟩
    unfold rowsM at hx
    obtain ⟨a, _, rfl⟩ := List.mem_map.1 hx
    by_cases c : a < n.toNat
    · rw [if_pos c]; have := rowM_length n.toNat s.toNat a; omega
    · rw [if_neg c]; simp
  · rw [if_neg p]; exact ⟨by simp, by simp⟩
theorem guard_eq (n s : Int) (wn : (Lit.int .i64 n).wf = true) : (decide (1 ≤ n) && decide (n ≤ 12)) = true → (decide (0 ≤ s) && decide (s ≤ wrap64 (n - 1))) = decide (0 ≤ s ∧ s < n) := by
  intro h
  simp only [Bool.and_eq_true, decide_eq_true_eq] at h
  rw [wrap_id (by omega) (by omega), ← Bool.decide_and]
  apply decide_eq_decide.2
  omega
theorem impl_ev (n s : Int) (wn : (Lit.int .i64 n).wf = true) : Ev (fun k => impl_MakeStar.f k n s) (tell n s) := by
  have hno : Ev (fun k => impl_MakeStar.j0 k n s true) ([], false) := Ev.step (f := fun _ => some ([], false)) (fun k => by simp [impl_MakeStar.j0]) (Ev.now _)
  unfold impl_MakeStar.f tell
  refine ev_bind0 (within_eq _ _ _) ?_
  refine ev_if (fun h => ?_) (fun h => ?_)
  · refine ev_bind0 (within_eq _ _ _) ?_
    rw [guard_eq n s wn h]
    simp only [Bool.and_eq_true, decide_eq_true_eq] at h
    by_cases c : 0 ≤ s ∧ s < n
    · rw [if_pos ⟨h, c⟩, decide_eq_true c]
      obtain ⟨m, rfl⟩ := Int.eq_ofNat_of_zero_le (show 0 ≤ n by omega)
      obtain ⟨t, rfl⟩ := Int.eq_ofNat_of_zero_le c.1
      rw [Int.toNat_natCast, Int.toNat_natCast]
      have q := ev_up (n := m) (loop := fun k i => impl_MakeStar.l0 k (m : Int) (t : Int) (rowsM m t i) (m : Int) (i : Int)) (r := fun _ => (rowsM m t m, true))
        (Ev.step (f := fun _ => some (rowsM m t m, true)) (fun k => by simp only [impl_MakeStar.l0]; rw [if_neg (by omega)]) (Ev.now _))
        (fun i hi ih => by
          refine Ev.step (f := fun k => impl_MakeStar.l0 k (m : Int) (t : Int) (rowsM m t (i + 1)) (m : Int) ((i + 1 : Nat) : Int)) (fun k => ?_) ih
          simp only [impl_MakeStar.l0]
          rw [if_pos (by omega)]
          by_cases e : i = t
          · rw [if_pos (by omega), succ_cast hi (by omega), rowsM_skip e]
          · rw [if_neg (by omega), Option.bind_some, if_neg (by omega), next_cast (by omega) (by omega) hi]
            have hne : (i + 1) % m ≠ i := by
              by_cases z : i + 1 = m
              · rw [z, Nat.mod_self]; omega
              · rw [Nat.mod_eq_of_lt (by omega)]; omega
            rw [if_neg (by omega), if_pos (by simp)]
            unfold slices_Sort_int_int.f slices_Compact_int_int.f
            rw [if_pos (by simp), Option.bind_some, Option.bind_some, if_pos (by omega), if_pos (by rw [rowsM_length]; omega), Int.toNat_natCast, succ_cast hi (by omega), List.singleton_append, two_row]
            congr 1
            rw [← rowsM_set hi]
            congr 1
            unfold rowM
            rw [if_neg e]
            by_cases d : (i + 1) % m = t
            · rw [if_pos (by omega), if_pos d]
            · rw [if_neg (by omega), if_neg d]) 0 (Nat.zero_le _)
      refine Ev.step (f := fun k => impl_MakeStar.l0 k (m : Int) (t : Int) (List.replicate m []) (m : Int) 0) (fun k => ?_) (by rw [← rowsM_zero m t]; simpa using q)
      simp only [impl_MakeStar.j0]
      rw [if_neg (by simp), if_pos (by omega), if_pos (by omega), Int.toNat_natCast]
    · rw [if_neg (fun hh => c hh.2), decide_eq_false c]
      exact hno
  · rw [if_neg (fun hh => h (by simp [hh.1.1, hh.1.2]))]
    exact hno
theorem spec_ev (n s : Int) (wn : (Lit.int .i64 n).wf = true) : Ev (fun k => spec_MakeStar.f k n s) (tell n s) := by
  have hno : Ev (fun k => spec_MakeStar.j0 k n s true) ([], false) := Ev.step (f := fun _ => some ([], false)) (fun k => by simp [spec_MakeStar.j0]) (Ev.now _)
  unfold spec_MakeStar.f tell
  refine ev_bind0 (l1In_eq _ _ _) ?_
  refine ev_if (fun h => ?_) (fun h => ?_)
  · refine ev_bind0 (l1In_eq _ _ _) ?_
    rw [guard_eq n s wn h]
    simp only [Bool.and_eq_true, decide_eq_true_eq] at h
    by_cases c : 0 ≤ s ∧ s < n
    · rw [if_pos ⟨h, c⟩, decide_eq_true c]
      obtain ⟨m, rfl⟩ := Int.eq_ofNat_of_zero_le (show 0 ≤ n by omega)
      obtain ⟨t, rfl⟩ := Int.eq_ofNat_of_zero_le c.1
      rw [Int.toNat_natCast, Int.toNat_natCast]
      have q := ev_up (n := m) (loop := fun k i => spec_MakeStar.l0 k (m : Int) (t : Int) ((rowsM m t m).take i) (i : Int)) (r := fun _ => (rowsM m t m, true))
        (Ev.step (f := fun _ => some (rowsM m t m, true)) (fun k => by simp only [spec_MakeStar.l0]; rw [if_neg (by omega), List.take_of_length_le (by rw [rowsM_length]; omega)]) (Ev.now _))
        (fun i hi ih => by
          have hl : ((rowsM m t m).take i).length < 5864062014805 := by rw [List.length_take, rowsM_length]; omega
          have hT := take_rowsM (s := t) hi
          by_cases e : i = t
          · refine Ev.step (f := fun k => spec_MakeStar.l0 k (m : Int) (t : Int) ((rowsM m t m).take (i + 1)) ((i + 1 : Nat) : Int)) (fun k => ?_) ih
            simp only [spec_MakeStar.l0]
            rw [if_pos (by omega), if_pos (by omega), if_pos hl, succ_cast hi (by omega), ← hT]
            unfold rowM
            rw [if_pos e]
          · refine Ev.step (f := fun k => (spec_l1Put.f k ([] : List Int) (t : Int)).bind fun t149 => (spec_l1Has.f k t149 (((i + 1) % m : Nat) : Int)).bind fun t152 => if t152 = true then (if ((rowsM m t m).take i).length < 5864062014805 then spec_MakeStar.l0 k (m : Int) (t : Int) ((rowsM m t m).take i ++ [t149]) ((i + 1 : Nat) : Int) else none) else (spec_l1Put.f k t149 (((i + 1) % m : Nat) : Int)).bind fun t156 => (if ((rowsM m t m).take i).length < 5864062014805 then spec_MakeStar.l0 k (m : Int) (t : Int) ((rowsM m t m).take i ++ [t156]) ((i + 1 : Nat) : Int) else none)) (fun k => ?_) ?_
            · simp only [spec_MakeStar.l0]
              rw [if_pos (by omega), if_neg (by omega)]
              congr 1
              funext t149
              rw [if_neg (by omega), next_cast (by omega) (by omega) hi, succ_cast hi (by omega)]
            · refine Ev.bind (put_ev [] (t : Int) (by simp)) ?_
              rw [show insI [] (t : Int) = [(t : Int)] from rfl]
              refine Ev.bind (l1Has_ev [(t : Int)] _ (by simp)) ?_
              unfold rowM at hT
              rw [if_neg e] at hT
              refine ev_if (fun d => ?_) (fun d => ?_)
              · have d' : (i + 1) % m = t := by rw [List.contains_iff_mem, List.mem_singleton] at d; exact Int.ofNat_inj.1 d
                rw [if_pos d'] at hT
                refine ev_if (fun _ => ?_) (fun h => absurd hl h)
                rw [hT]
                exact ih
              · have d' : ¬ (i + 1) % m = t := fun e => d (by rw [List.contains_iff_mem, List.mem_singleton, e])
                rw [if_neg d'] at hT
                refine Ev.bind (put_ev [(t : Int)] _ (by simp)) ?_
                refine ev_if (fun _ => ?_) (fun h => absurd hl h)
                rw [hT]
                exact ih) 0 (Nat.zero_le _)
      refine Ev.step (f := fun k => spec_MakeStar.l0 k (m : Int) (t : Int) [] 0) (fun k => ?_) (by simpa using q)
      simp only [spec_MakeStar.j0]
      rw [if_neg (by simp)]
    · rw [if_neg (fun hh => c hh.2), decide_eq_false c]
      exact hno
  · rw [if_neg (fun hh => h (by simp [hh.1.1, hh.1.2]))]
    exact hno
theorem FnExactMakeStar : laws_FnExactMakeStar.Pure := by
  intro n s wn _
  refine Ev.rounds (g := fun k => laws_FnExactMakeStar.f k n s) ?_
  unfold laws_FnExactMakeStar.f
  have hS := spec_ev n s wn
  have hI := impl_ev n s wn
  have hp := tell_len n s
  generalize tell n s = z at hS hI hp
  obtain ⟨ps, ok1⟩ := z
  obtain ⟨hp1, hp2⟩ := hp
  replace hp1 : ps.length ≤ 12 := hp1
  replace hp2 : ∀ x ∈ ps, x.length ≤ 12 := hp2
  have ht : totR ps ≤ 144 := Nat.le_trans (totR_le ps 12 hp2) (by omega)
  have hE := eqIntSS_ev ps (by omega) (fun x hx => by have := hp2 x hx; omega)
  have hM := markIntSS_ev ps (by omega) (by omega)
  have hH := heldIntSS_ev ps (by omega) (by omega)
  refine Ev.bind hS ?_
  refine Ev.bind hI ?_
  refine Ev.bind hE ?_
  refine ev_if (fun _ => ?_) (fun h => absurd rfl h)
  show Ev (fun k => laws_FnExactMakeStar.j0 k n s ps ok1 ps (ok1 != ok1)) true
  rw [show (ok1 != ok1) = false by simp]
  refine Ev.step (f := fun k => (laws_markIntSS.f k ps 1).bind fun bt201 => ((laws_heldIntSS.f k bt201.2 1).bind fun t202 => (if t202 < 0 then (some false) else (if t202 = bt201.1 then ((impl_MakeStar.f k n s).bind fun bt203 => ((laws_eqIntSS.f k bt203.1 ps).bind fun t207 => (if t207 = true then (laws_FnExactMakeStar.j1 k bt201.2 bt201.1 (bt203.2 != ok1)) else (laws_FnExactMakeStar.j1 k bt201.2 bt201.1 true)))) else (some false))))) (fun k => by simp only [laws_FnExactMakeStar.j0]; rfl) ?_
  refine Ev.bind hM ?_
  refine Ev.bind hH ?_
  refine ev_if (fun (q : (1 + (totR ps : Int)) < 0) => by omega) (fun _ => ?_)
  refine ev_if (fun _ => ?_) (fun h => absurd rfl h)
  refine Ev.bind hI ?_
  refine Ev.bind hE ?_
  refine ev_if (fun _ => ?_) (fun h => absurd rfl h)
  show Ev (fun k => laws_FnExactMakeStar.j1 k (markRows 1 ps) (1 + (totR ps : Int)) (ok1 != ok1)) true
  rw [show (ok1 != ok1) = false by simp]
  refine Ev.step (f := fun k => (laws_heldIntSS.f k (markRows 1 ps) 1).bind fun t278 => (if t278 < 0 then (some false) else (if t278 = (1 + (totR ps : Int)) then (some true) else (some false)))) (fun k => by simp only [laws_FnExactMakeStar.j1]; rfl) ?_
  refine Ev.bind hH ?_
  refine ev_if (fun (q : (1 + (totR ps : Int)) < 0) => by omega) (fun _ => ?_)
  refine ev_if (fun _ => ?_) (fun h => absurd rfl h)
  exact Ev.now _
end Go.Proofs.Ytbghhkdjcogpdaa.Pure
