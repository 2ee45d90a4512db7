import Derived.Test.YtcdngkehajifcaaQ0
import Derived.Test.YtcdngkehajifcaaQ2
import Derived.Test.YtcdngkehajifcaaQ3
import Derived.Test.YtcdngkehajifcaaQ4
import Derived.Test.YtcdngkehajifcaaQ5
import Derived.Test.YtcdngkehajifcaaQ6
import Derived.Test.YtcdngkehajifcaaQ9
import Derived.Test.YtcdngkehajifcaaQ12
import Derived.Test.YtcdngkehajifcaaQ13
import Derived.Test.YtcdngkehajifcaaQ14
import Derived.Test.YtcdngkehajifcaaQ15
import Derived.Test.YtcdngkehajifcaaQ20
import Derived.Test.YtcdngkehajifcaaQ21
import Derived.Test.YtcdngkehajifcaaQ24
import Derived.Test.YtcdngkehajifcaaQ25
import Derived.Test.YtcdngkehajifcaaQ26
import Derived.Test.YtcdngkehajifcaaQ27
import Derived.Test.YtcdngkehajifcaaQ28
import Derived.Test.YtcdngkehajifcaaQ29
import Derived.Test.YtcdngkehajifcaaQ30
import Derived.Test.YtcdngkehajifcaaQ31
import Derived.Test.YtcdngkehajifcaaQ32
import Derived.Test.YtcdngkehajifcaaQ33
import Derived.Test.YtcdngkehajifcaaQ34
import Derived.Test.YtcdngkehajifcaaSayFnExactRenamePainting
/- Plain lemmas over rounds, lists and whole numbers, for the pure statements of this seat. No condition. -/
namespace Go.Proofs.Ytcdngkehajifcaa.Plain
open Go.RowKit Go.Proofs.YtcdngkehajifcaaW.PrintWords Go.Proofs.YtcdngkehajifcaaW.PrintLast
set_option linter.unusedVariables false

theorem wrap_id {x : Int} (h0 : -9223372036854775808 ≤ x) (h1 : x ≤ 9223372036854775807) : wrap64 x = x := by
  unfold wrap64
  omega

theorem rd_at {l : List Int} {i : Nat} (h : i < l.length) : rd l (i : Int) = l[i] := by
  simp [rd, List.getD, h]

theorem ev_some {α : Type} {g : Nat → Option α} {r : α} (h : ∀ k, g k = some r) : Ev g r := ⟨0, fun k _ => h k⟩

theorem ev_bind0 {α β : Type} {g : Option α} {f : Nat → α → Option β} {a : α} {r : β} (h : g = some a) (k : Ev (fun n => f n a) r) : Ev (fun n => g.bind (f n)) r := by
  obtain ⟨K, hK⟩ := k
  refine ⟨K, fun n hn => ?_⟩
  show g.bind (f n) = some r
  rw [h]
  exact hK n hn

theorem ev_if {α : Type} {c : Prop} [Decidable c] {f g : Nat → Option α} {r : α} (hf : c → Ev f r) (hg : ¬ c → Ev g r) : Ev (fun n => if c then f n else g n) r := by
  by_cases h : c
  · obtain ⟨K, hK⟩ := hf h
    exact ⟨K, fun n hn => (if_pos h).trans (hK n hn)⟩
  · obtain ⟨K, hK⟩ := hg h
    exact ⟨K, fun n hn => (if_neg h).trans (hK n hn)⟩

/-- A loop over an index, from any index on, in one shape. -/
theorem ev_up {α : Type} {n : Nat} {loop : Nat → Nat → Option α} {r : Nat → α} (hend : Ev (fun k => loop k n) (r n)) (hstep : ∀ i, i < n → (Ev (fun k => loop k (i + 1)) (r (i + 1)) → Ev (fun k => loop k i) (r i))) :
    ∀ i, i ≤ n → Ev (fun k => loop k i) (r i) := by
  intro i hi
  have : ∀ d i, i ≤ n → n - i = d → Ev (fun k => loop k i) (r i) := by
    intro d
    induction d with
    | zero =>
      intro i hi hd
      have e : i = n := by omega
      rw [e]; exact hend
    | succ d ih =>
      intro i hi hd
      exact hstep i (by omega) (ih (i + 1) (by omega) (by omega))
  exact this (n - i) i hi rfl
theorem all_step (f : Nat → Bool) {m i : Nat} (h : i < m) : ((List.range m).drop i).all f = (f i && ((List.range m).drop (i + 1)).all f) := by
  rw [List.drop_eq_getElem_cons (by simpa using h), List.all_cons, List.getElem_range]
theorem all_end (f : Nat → Bool) {m i : Nat} (h : m ≤ i) : ((List.range m).drop i).all f = true := by
  rw [List.drop_of_length_le (by simpa using h)]; rfl
theorem succ_cast {i n : Nat} (h : i < n) (hn : n ≤ 9223372036854775807) : wrap64 ((i : Int) + 1) = ((i + 1 : Nat) : Int) := by
  rw [wrap_id (by omega) (by omega)]; rfl
end Go.Proofs.Ytcdngkehajifcaa.Plain

/- The law's own functions over lists of whole numbers: copies, equality, bounds. No condition but lengths that fit. -/
namespace Go.Proofs.Ytcdngkehajifcaa.Plain
open Go.RowKit Go.Proofs.YtcdngkehajifcaaW.PrintWords Go.Proofs.YtcdngkehajifcaaW.PrintLast
set_option linter.unusedVariables false
open Q

theorem copy_step (l : List Int) (i : Nat) (h : i < l.length) :
    (l.take i ++ List.replicate (l.length - i) (0 : Int)).set ((i : Int)).toNat (rd l (i : Int)) = l.take (i + 1) ++ List.replicate (l.length - (i + 1)) (0 : Int) := by
  have e : l.length - i = (l.length - (i + 1)) + 1 := by omega
  have hl : (l.take i).length = i := by simp; omega
  rw [Int.toNat_natCast, rd_at h, e, List.replicate_succ, List.set_append_right _ _ (by omega), hl, Nat.sub_self, List.set_cons_zero, List.take_succ_eq_append_getElem h, List.append_assoc]
  rfl

theorem toIntS_ev (l : List Int) (h : l.length ≤ 35184372088832) : Ev (fun k => laws_toIntS.f k l) l := by
  refine Ev.congr (f := fun k => laws_toIntS.l0 k l (List.replicate l.length 0) 0) (fun k => ?_) ?_
  · unfold laws_toIntS.f
    rw [if_pos (by omega), if_pos (by omega), Int.toNat_natCast]
  · have q := ev_up (n := l.length) (loop := fun k i => laws_toIntS.l0 k l (l.take i ++ List.replicate (l.length - i) 0) (i : Int)) (r := fun _ => l)
      (Ev.step (f := fun _ => some l) (fun k => by simp [laws_toIntS.l0]) (Ev.now l))
      (fun i hi ih => Ev.step (f := fun k => laws_toIntS.l0 k l (l.take (i + 1) ++ List.replicate (l.length - (i + 1)) 0) ((i + 1 : Nat) : Int)) (fun k => by
        simp only [laws_toIntS.l0]
        rw [if_pos (by omega), if_pos (by omega), if_pos (by simp; omega), copy_step l i hi, succ_cast hi (by omega)]) ih) 0 (Nat.zero_le _)
    simpa using q

theorem eqIntS_ev (l : List Int) (h : l.length ≤ 9223372036854775807) : Ev (fun k => laws_eqIntS.f k l l) true := by
  refine Ev.congr (f := fun k => laws_eqIntS.l0 k l l 0) (fun k => ?_) ?_
  · unfold laws_eqIntS.f
    rw [if_pos rfl]
  · exact ev_up (n := l.length) (loop := fun k i => laws_eqIntS.l0 k l l (i : Int)) (r := fun _ => true)
      (Ev.step (f := fun _ => some true) (fun k => by simp [laws_eqIntS.l0]) (Ev.now true))
      (fun i hi ih => Ev.step (f := fun k => laws_eqIntS.l0 k l l ((i + 1 : Nat) : Int)) (fun k => by
        simp only [laws_eqIntS.l0]
        rw [if_pos (by omega), if_pos (by omega), if_pos (by omega), if_pos trivial, succ_cast hi h]) ih) 0 (Nat.zero_le _)

theorem l1In_eq (a b c : Int) : spec_l1In.f a b c = some (decide (b ≤ a) && decide (a ≤ c)) := by
  unfold spec_l1In.f
  by_cases h : b ≤ a <;> simp [h]

theorem within_eq (a b c : Int) : impl_within.f a b c = some (decide (b ≤ a) && decide (a ≤ c)) := by
  unfold impl_within.f
  by_cases h : b ≤ a <;> simp [h]

theorem l1All_ev (l : List Int) (lo hi : Int) (h : l.length ≤ 9223372036854775807) : Ev (fun k => spec_l1All.f k l lo hi) (l.all fun x => decide (lo ≤ x) && decide (x ≤ hi)) := by
  have q := ev_up (n := l.length) (loop := fun k i => spec_l1All.l0 k lo hi l (l.length : Int) (i : Int)) (r := fun i => (l.drop i).all fun x => decide (lo ≤ x) && decide (x ≤ hi))
    (Ev.step (f := fun _ => some true) (fun k => by simp [spec_l1All.l0]) (by simpa using Ev.now true))
    (fun i hi' ih => by
      have e : (l.drop i).all (fun x => decide (lo ≤ x) && decide (x ≤ hi)) = ((decide (lo ≤ l[i]) && decide (l[i] ≤ hi)) && (l.drop (i + 1)).all fun x => decide (lo ≤ x) && decide (x ≤ hi)) := by
        rw [List.drop_eq_getElem_cons hi', List.all_cons]
      rw [e]
      cases hb : (decide (lo ≤ l[i]) && decide (l[i] ≤ hi)) with
      | true =>
        refine Ev.step (f := fun k => spec_l1All.l0 k lo hi l (l.length : Int) ((i + 1 : Nat) : Int)) (fun k => ?_) (by simpa using ih)
        simp only [spec_l1All.l0]
        rw [if_pos (by omega), if_pos (by omega), if_pos (by omega), l1In_eq, rd_at hi', hb, Option.bind_some, if_pos rfl, succ_cast hi' h]
      | false =>
        refine Ev.step (f := fun _ => some false) (fun k => ?_) (by simpa using Ev.now false)
        simp only [spec_l1All.l0]
        rw [if_pos (by omega), if_pos (by omega), if_pos (by omega), l1In_eq, rd_at hi', hb, Option.bind_some, if_neg (by simp)]) 0 (Nat.zero_le _)
  simpa [spec_l1All.f] using q

theorem szIntS_eq (l : List Int) (a : Int) (h0 : 0 ≤ a) (h1 : a ≤ 1048576) (h : l.length ≤ 9223372036854775807) : laws_szIntS.f l a = some (if a < (l.length : Int) then -1 else a - l.length) := by
  unfold laws_szIntS.f
  rw [wrap_id (by omega) (by omega)]
  by_cases hl : a < (l.length : Int)
  · rw [if_pos (by omega), if_pos hl]
  · rw [if_neg (by omega), if_neg hl]
end Go.Proofs.Ytcdngkehajifcaa.Plain

/- Is a number in a list: the reference's way. No condition but a length that fits. -/
namespace Go.Proofs.Ytcdngkehajifcaa.Plain
open Go.RowKit Go.Proofs.YtcdngkehajifcaaW.PrintWords Go.Proofs.YtcdngkehajifcaaW.PrintLast
set_option linter.unusedVariables false
open Q

theorem l1Has_ev (l : List Int) (a : Int) (h : l.length ≤ 9223372036854775807) : Ev (fun k => spec_l1Has.f k l a) (l.contains a) := by
  have q := ev_up (n := l.length) (loop := fun k i => spec_l1Has.l0 k a l (l.length : Int) (i : Int)) (r := fun i => (l.drop i).contains a)
    (Ev.step (f := fun _ => some false) (fun k => by simp [spec_l1Has.l0]) (by simpa using Ev.now false))
    (fun i hi ih => by
      rw [List.drop_eq_getElem_cons hi, List.contains_cons]
      by_cases e : l[i] = a
      · refine Ev.step (f := fun _ => some true) (fun k => ?_) (by rw [e]; simpa using Ev.now true)
        simp only [spec_l1Has.l0]
        rw [if_pos (by omega), if_pos (by omega), if_pos (by omega), rd_at hi, if_pos e]
      · refine Ev.step (f := fun k => spec_l1Has.l0 k a l (l.length : Int) ((i + 1 : Nat) : Int)) (fun k => ?_) ?_
        · simp only [spec_l1Has.l0]
          rw [if_pos (by omega), if_pos (by omega), if_pos (by omega), rd_at hi, if_neg e, succ_cast hi h]
        · have : (a == l[i]) = false := by simpa using fun q => e q.symm
          rw [this, Bool.false_or]; exact ih) 0 (Nat.zero_le _)
  simpa [spec_l1Has.f] using q
end Go.Proofs.Ytcdngkehajifcaa.Plain

/- Lists that hold each number less than n once: both sides' tests tell the same. No condition. -/
namespace Go.Proofs.Ytcdngkehajifcaa.Plain
open Go.RowKit Go.Proofs.YtcdngkehajifcaaW.PrintWords Go.Proofs.YtcdngkehajifcaaW.PrintLast
set_option linter.unusedVariables false
open Q

def upToL (n : Nat) : List Int := (List.range n).map fun i : Nat => (i : Int)
theorem upToL_length (n : Nat) : (upToL n).length = n := by simp [upToL]
theorem upToL_succ (n : Nat) : upToL (n + 1) = upToL n ++ [(n : Int)] := by simp [upToL, List.range_succ]
theorem upToL_get {n i : Nat} (h : i < (upToL n).length) : (upToL n)[i] = (i : Int) := by simp [upToL]
theorem mem_upToL {n : Nat} {x : Int} : x ∈ upToL n ↔ 0 ≤ x ∧ x < (n : Int) := by
  simp only [upToL, List.mem_map, List.mem_range]
  constructor
  · rintro ⟨i, hi, rfl⟩; omega
  · rintro ⟨h0, h1⟩; exact ⟨x.toNat, by omega, by omega⟩
theorem nodup_upToL (n : Nat) : (upToL n).Nodup := by
  unfold upToL
  rw [List.nodup_iff_pairwise_ne, List.pairwise_map]
  exact (List.nodup_range (n := n)).imp (fun h e => h (by omega))

theorem upTo_ev (n : Int) (hn : n ≤ 1000000) : Ev (fun k => impl_upTo.f k n) (upToL n.toNat) := by
  by_cases h0 : 0 ≤ n
  · obtain ⟨m, rfl⟩ := Int.eq_ofNat_of_zero_le h0
    rw [Int.toNat_natCast]
    have q := ev_up (n := m) (loop := fun k i => impl_upTo.l0 k (upToL i) (m : Int) (i : Int)) (r := fun _ => upToL m)
      (Ev.step (f := fun _ => some (upToL m)) (fun k => by simp only [impl_upTo.l0]; rw [if_neg (by omega)]) (Ev.now _))
      (fun i hi ih => by
        refine Ev.step (f := fun k => impl_upTo.l0 k (upToL (i + 1)) (m : Int) ((i + 1 : Nat) : Int)) (fun k => ?_) ih
        simp only [impl_upTo.l0]
        rw [if_pos (by omega), if_pos (by rw [upToL_length]; omega), upToL_succ, succ_cast hi (by omega)]) 0 (Nat.zero_le _)
    exact q
  · have : n.toNat = 0 := by omega
    rw [this]
    refine Ev.step (f := fun _ => some (upToL 0)) (fun k => ?_) (Ev.now _)
    simp only [impl_upTo.f, impl_upTo.l0]
    rw [if_neg (by omega)]
    rfl

theorem equal_ev (l m : List Int) (h : l.length ≤ 9223372036854775807) : Ev (fun k => slices_Equal_int_int.f k l m) (decide (l = m)) := by
  unfold slices_Equal_int_int.f
  refine ev_if (fun e => ?_) (fun e => ?_)
  · have e' : l.length = m.length := by omega
    have q := ev_up (n := l.length) (loop := fun k i => slices_Equal_int_int.l0 k l m (l.length : Int) (i : Int)) (r := fun i => decide (l.drop i = m.drop i))
      (Ev.step (f := fun _ => some true) (fun k => by simp only [slices_Equal_int_int.l0]; rw [if_neg (by omega)]) (by
        rw [List.drop_eq_nil_of_le (Nat.le_refl _), List.drop_eq_nil_of_le (by omega)]; exact Ev.now _))
      (fun i hi ih => by
        have hi' : i < m.length := by omega
        rw [List.drop_eq_getElem_cons hi, List.drop_eq_getElem_cons hi']
        by_cases c : l[i] = m[i]
        · rw [show decide (l[i] :: l.drop (i + 1) = m[i] :: m.drop (i + 1)) = decide (l.drop (i + 1) = m.drop (i + 1)) from decide_eq_decide.2 (by rw [List.cons.injEq]; simp [c])]
          refine Ev.step (f := fun k => slices_Equal_int_int.l0 k l m (l.length : Int) ((i + 1 : Nat) : Int)) (fun k => ?_) ih
          simp only [slices_Equal_int_int.l0]
          rw [if_pos (by omega), if_pos (by omega), if_pos (by omega), if_pos (by omega), rd_at hi, rd_at hi', succ_cast hi h]
          simp [c]
        · rw [show decide (l[i] :: l.drop (i + 1) = m[i] :: m.drop (i + 1)) = false from decide_eq_false (by rw [List.cons.injEq]; simp [c])]
          refine Ev.step (f := fun _ => some false) (fun k => ?_) (Ev.now _)
          simp only [slices_Equal_int_int.l0]
          rw [if_pos (by omega), if_pos (by omega), if_pos (by omega), if_pos (by omega), rd_at hi, rd_at hi']
          simp [c]) 0 (Nat.zero_le _)
    simpa using q
  · have : l ≠ m := fun c => e (by rw [c])
    rw [decide_eq_false this]
    exact Ev.now _

/-- No number twice. -/
def nodupB (l : List Int) : Bool := (List.range l.length).all fun i => !(l.take i).contains (rd l (i : Int))
theorem nodupB_iff {l : List Int} : nodupB l = true ↔ l.Nodup := by
  rw [List.nodup_iff_pairwise_ne, List.pairwise_iff_getElem]
  unfold nodupB
  simp only [List.all_eq_true, List.mem_range, Bool.not_eq_true', List.contains_eq_mem, decide_eq_false_iff_not]
  constructor
  · intro h i j hi hj hij e
    refine h j hj ?_
    rw [rd_at hj, List.mem_take_iff_getElem]
    exact ⟨i, by omega, e⟩
  · intro h j hj hm
    rw [rd_at hj, List.mem_take_iff_getElem] at hm
    obtain ⟨i, hi, e⟩ := hm
    exact h i j (by omega) hj (by omega) e

/-- Each number less than n once. -/
def orderB (n : Int) (l : List Int) : Bool := decide ((l.length : Int) = n) && ((l.all fun x => decide (0 ≤ x) && decide (x ≤ n - 1)) && nodupB l)

theorem perm_of_nodup : ∀ (l m : List Int), l.Nodup → (∀ x ∈ l, x ∈ m) → l.length = m.length → l.Perm m
  | [], m, _, _, h => by
    have : m = [] := List.eq_nil_of_length_eq_zero (by simpa using h.symm)
    rw [this]
  | x :: l, m, hd, hs, h => by
    have hx : x ∈ m := hs x (by simp)
    have hd' := List.nodup_cons.1 hd
    refine List.Perm.trans (List.Perm.cons x (perm_of_nodup l (m.erase x) hd'.2 (fun y hy => ?_) ?_)) (List.perm_cons_erase hx).symm
    · exact (List.mem_erase_of_ne (fun e => hd'.1 (by rw [← e]; exact hy))).2 (hs y (by simp [hy]))
    · rw [List.length_erase_of_mem hx, ← h]; simp

abbrev sortI (l : List Int) : List Int := l.mergeSort fun x y => decide (x ≤ y)
theorem sortI_perm (l : List Int) : (sortI l).Perm l := List.mergeSort_perm _ _
theorem sortI_length (l : List Int) : (sortI l).length = l.length := (sortI_perm l).length_eq
theorem sortI_pairwise (l : List Int) : (sortI l).Pairwise (fun a b => a ≤ b) := by
  have := List.pairwise_mergeSort (le := fun x y : Int => decide (x ≤ y)) (fun a b c h1 h2 => by simp only [decide_eq_true_eq] at *; omega) (fun a b => by simp only [Bool.or_eq_true, decide_eq_true_eq]; omega) l
  exact this.imp (fun h => by simpa using h)
theorem sorted_unique {l m : List Int} (h1 : l.Pairwise (fun a b => a ≤ b)) (h2 : m.Pairwise (fun a b => a ≤ b)) (h : l.Perm m) : l = m :=
  List.Perm.eq_of_pairwise (le := fun a b : Int => a ≤ b) (fun a b _ _ h1 h2 => by omega) h1 h2 h
theorem upToL_pairwise (n : Nat) : (upToL n).Pairwise (fun a b => a ≤ b) := by
  rw [List.pairwise_iff_getElem]
  intro i j hi hj hij
  rw [upToL_get, upToL_get]; omega

theorem sort_upTo {n : Int} (h0 : 0 ≤ n) (l : List Int) : decide (sortI l = upToL n.toNat) = orderB n l := by
  obtain ⟨m, rfl⟩ := Int.eq_ofNat_of_zero_le h0
  rw [Int.toNat_natCast, Bool.eq_iff_iff, decide_eq_true_eq]
  unfold orderB
  simp only [Bool.and_eq_true, decide_eq_true_eq, List.all_eq_true, nodupB_iff]
  constructor
  · intro e
    have hp : l.Perm (upToL m) := by rw [← e]; exact (sortI_perm l).symm
    refine ⟨by rw [hp.length_eq, upToL_length], fun x hx => ?_, hp.nodup_iff.2 (nodup_upToL m)⟩
    have := mem_upToL.1 (hp.mem_iff.1 hx)
    omega
  · rintro ⟨hl, hb, hd⟩
    have hp : l.Perm (upToL m) := perm_of_nodup _ _ hd (fun x hx => mem_upToL.2 (by have := hb x hx; omega)) (by rw [upToL_length]; omega)
    exact sorted_unique (sortI_pairwise l) (upToL_pairwise m) ((sortI_perm l).trans hp)

theorem isPermutation_ev (l : List Int) (n : Int) (h0 : 0 ≤ n) (hn : n ≤ 1000000) (h : l.length ≤ 1048576) : Ev (fun k => impl_isPermutation.f k l n) (orderB n l) := by
  unfold impl_isPermutation.f
  refine ev_if (fun _ => ?_) (fun c => absurd (by omega) c)
  refine Ev.bind (upTo_ev n hn) ?_
  rw [← sort_upTo h0]
  exact equal_ev _ _ (by rw [sortI_length]; omega)

theorem grOrder_ev (n : Int) (l : List Int) (h0 : 0 ≤ n) (hn : n ≤ 1000000) (h : l.length ≤ 1048576) : Ev (fun k => spec_grOrder.f k n l) (orderB n l) := by
  unfold spec_grOrder.f
  have wn : wrap64 (n - 1) = n - 1 := wrap_id (by omega) (by omega)
  rw [wn]
  have fin : Ev (fun k => spec_grOrder.j0 k l false) (nodupB l) := by
    refine Ev.step (f := fun k => spec_grOrder.l0 k l l (l.length : Int) 0) (fun k => by simp only [spec_grOrder.j0]; rw [if_neg (by simp)]) ?_
    have q := ev_up (n := l.length) (loop := fun k i => spec_grOrder.l0 k l l (l.length : Int) (i : Int)) (r := fun i => ((List.range l.length).drop i).all fun i => !(l.take i).contains (rd l (i : Int)))
      (Ev.step (f := fun _ => some true) (fun k => by simp only [spec_grOrder.l0]; rw [if_neg (by omega)]) (by rw [all_end _ (Nat.le_refl _)]; exact Ev.now _))
      (fun i hi ih => by
        rw [all_step _ hi]
        refine Ev.step (f := fun k => (spec_l1Has.f k (l.take i) (rd l (i : Int))).bind fun t => if t = true then some false else spec_grOrder.l0 k l l (l.length : Int) ((i + 1 : Nat) : Int)) (fun k => ?_) ?_
        · simp only [spec_grOrder.l0]
          rw [if_pos (by omega), if_pos (by omega), if_pos (by omega), if_pos (by omega), Int.toNat_natCast, succ_cast hi (by omega)]
        · refine Ev.bind (l1Has_ev _ _ (by rw [List.length_take]; omega)) ?_
          refine ev_if (fun c => ?_) (fun c => ?_)
          · rw [c]; exact Ev.now _
          · have c' : (l.take i).contains (rd l (i : Int)) = false := by simpa using c
            rw [c']; simpa using ih) 0 (Nat.zero_le _)
    exact q
  have bad : Ev (fun k => spec_grOrder.j0 k l true) false := Ev.step (f := fun _ => some false) (fun k => by simp only [spec_grOrder.j0]; rfl) (Ev.now _)
  unfold orderB
  refine ev_if (fun c => ?_) (fun c => ?_)
  · rw [decide_eq_true c, Bool.true_and]
    refine Ev.bind (l1All_ev l 0 (n - 1) (by omega)) ?_
    cases hq : l.all fun x => decide (0 ≤ x) && decide (x ≤ n - 1) with
    | true => rw [Bool.true_and]; exact fin
    | false => rw [Bool.false_and]; exact bad
  · rw [decide_eq_false c, Bool.false_and]; exact bad

theorem order_of {n : Int} {l : List Int} (h : orderB n l = true) : (l.length : Int) = n ∧ (∀ x ∈ l, 0 ≤ x ∧ x ≤ n - 1) ∧ l.Nodup := by
  unfold orderB at h
  simp only [Bool.and_eq_true, decide_eq_true_eq, List.all_eq_true, nodupB_iff] at h
  exact h
end Go.Proofs.Ytcdngkehajifcaa.Plain

/- Paintings: both sides' tests, and the law's own functions over paintings. No condition but lengths that fit. -/
namespace Go.Proofs.Ytcdngkehajifcaa.Plain
open Go.RowKit Go.Proofs.YtcdngkehajifcaaW.PrintWords Go.Proofs.YtcdngkehajifcaaW.PrintLast
set_option linter.unusedVariables false
open Q

/-- A painting: so many people, so many colours, a colour for each pair. -/
def painted (n c : Int) (l : List Int) : Bool := (decide (0 ≤ n) && decide (n ≤ 8)) && ((decide (1 ≤ c) && decide (c ≤ 3)) && (decide ((l.length : Int) = n * (n - 1) / 2) && l.all fun x => decide (0 ≤ x) && decide (x ≤ c - 1)))

theorem szPainting_eq (n c : Int) (l : List Int) (a : Int) (h0 : 0 ≤ a) (h1 : a ≤ 1048576) (h : l.length ≤ 9223372036854775807) : laws_szPainting.f n c l a = some (if a < (l.length : Int) then -1 else a - l.length) := by
  unfold laws_szPainting.f
  rw [szIntS_eq l a h0 h1 h, Option.bind_some]
  by_cases hl : a < (l.length : Int)
  · rw [if_pos hl, if_pos (by omega)]
  · rw [if_neg hl, if_neg (by omega)]

theorem toPainting_ev (n c : Int) (l : List Int) (h : l.length ≤ 35184372088832) : Ev (fun k => laws_toPainting.f k n c l) (n, c, l) := by
  refine Ev.bind (f := fun _ t => some (n, c, t)) (toIntS_ev l h) (Ev.now _)

theorem eqPainting_ev (n c : Int) (l : List Int) (h : l.length ≤ 9223372036854775807) : Ev (fun k => laws_eqPainting.f k n c l n c l) true := by
  refine Ev.congr (f := fun k => (laws_eqIntS.f k l l).bind fun t => if t = true then some true else some false) (fun k => ?_) ?_
  · unfold laws_eqPainting.f
    rw [if_pos rfl, if_pos rfl]
  · exact Ev.bind (f := fun _ t => if t = true then some true else some false) (eqIntS_ev l h) (ev_some (fun _ => rfl))

theorem pairs_of {n : Int} (h0 : 0 ≤ n) (h1 : n ≤ 8) : wrap64 (Int.tdiv (wrap64 (n * (wrap64 (n - 1)))) 2) = n * (n - 1) / 2 := by
  have : n = 0 ∨ n = 1 ∨ n = 2 ∨ n = 3 ∨ n = 4 ∨ n = 5 ∨ n = 6 ∨ n = 7 ∨ n = 8 := by omega
  rcases this with rfl | rfl | rfl | rfl | rfl | rfl | rfl | rfl | rfl <;> decide +kernel

theorem choose_two {n : Int} (h0 : 0 ≤ n) (h1 : n ≤ 8) : Ev (fun k => impl_choose.f k n 2) (n * (n - 1) / 2) := by
  refine Ev.of (fun k => impl_choose.mono n 2 k) (k := 10) ?_
  have : n = 0 ∨ n = 1 ∨ n = 2 ∨ n = 3 ∨ n = 4 ∨ n = 5 ∨ n = 6 ∨ n = 7 ∨ n = 8 := by omega
  rcases this with rfl | rfl | rfl | rfl | rfl | rfl | rfl | rfl | rfl <;> decide +kernel

theorem ptGood_ev (n c : Int) (l : List Int) (h : l.length ≤ 9223372036854775807) : Ev (fun k => spec_ptGood.f k n c l) (painted n c l) := by
  unfold spec_ptGood.f
  refine ev_bind0 (l1In_eq _ _ _) ?_
  refine ev_if (fun b1 => ?_) (fun b1 => ?_)
  · refine ev_bind0 (l1In_eq _ _ _) ?_
    refine ev_if (fun b2 => ?_) (fun b2 => ?_)
    · have c1 : 0 ≤ n ∧ n ≤ 8 := by simpa using b1
      have c2 : 1 ≤ c ∧ c ≤ 3 := by simpa using b2
      rw [pairs_of c1.1 c1.2, wrap_id (x := c - 1) (by omega) (by omega)]
      refine ev_if (fun b3 => ?_) (fun b3 => ?_)
      · have e : painted n c l = l.all fun x => decide (0 ≤ x) && decide (x ≤ c - 1) := by
          unfold painted
          rw [b1, b2, decide_eq_true b3]; simp
        rw [e]
        exact Ev.bind (f := fun _ t => some t) (l1All_ev l _ _ h) (Ev.now _)
      · have e : painted n c l = false := by
          unfold painted
          rw [decide_eq_false b3]; simp
        rw [e]; exact Ev.now _
    · have e : painted n c l = false := by
        unfold painted
        rw [Bool.eq_false_iff.mpr b2]; simp
      rw [e]; exact Ev.now _
  · have e : painted n c l = false := by
      unfold painted
      rw [Bool.eq_false_iff.mpr b1]; simp
    rw [e]; exact Ev.now _

theorem isPainting_ev (n c : Int) (l : List Int) (h : l.length ≤ 9223372036854775807) : Ev (fun k => impl_IsPainting.f k n c l) (painted n c l) := by
  unfold impl_IsPainting.f
  have hp : impl_isPainted.f n c = some ((decide (0 ≤ n) && decide (n ≤ 8)) && (decide (1 ≤ c) && decide (c ≤ 3))) := by
    unfold impl_isPainted.f
    rw [within_eq, within_eq, Option.bind_some]
    cases (decide (0 ≤ n) && decide (n ≤ 8)) <;> simp
  refine ev_bind0 hp ?_
  refine ev_if (fun b1 => ?_) (fun b1 => ?_)
  · have c1 : (0 ≤ n ∧ n ≤ 8) ∧ (1 ≤ c ∧ c ≤ 3) := by simpa using b1
    refine Ev.bind (choose_two c1.1.1 c1.1.2) ?_
    rw [wrap_id (x := c - 1) (by omega) (by omega)]
    refine ev_if (fun b3 => ?_) (fun b3 => ?_)
    · have e : painted n c l = l.all fun x => decide (0 ≤ x) && decide (x ≤ c - 1) := by
        unfold painted
        rw [← Bool.and_assoc, b1, decide_eq_true b3]; simp
      rw [e]
      exact ev_some (fun _ => rfl)
    · have e : painted n c l = false := by
        unfold painted
        rw [decide_eq_false b3]; simp
      rw [e]; exact Ev.now _
  · have e : painted n c l = false := by
      unfold painted
      rw [← Bool.and_assoc, Bool.eq_false_iff.mpr b1]; simp
    rw [e]; exact Ev.now _
end Go.Proofs.Ytcdngkehajifcaa.Plain

/- The place of a pair among the pairs of a painting, and its colour, on both sides. No condition but lengths that fit. -/
namespace Go.Proofs.Ytcdngkehajifcaa.Plain
open Go.RowKit Go.Proofs.YtcdngkehajifcaaW.PrintWords Go.Proofs.YtcdngkehajifcaaW.PrintLast
set_option linter.unusedVariables false
open Q

/-- The place of a pair among those of n people. -/
def placeOf (n a b : Int) : Int := if a > b then b * (2 * n - b - 1) / 2 + a - b - 1 else a * (2 * n - a - 1) / 2 + b - a - 1

theorem place_all : ∀ n : Fin 9, ∀ a : Fin 9, ∀ b : Fin 9, a.val < n.val → b.val < n.val → a.val ≠ b.val →
    spec_ptAt.f (n.val : Int) (a.val : Int) (b.val : Int) = some (placeOf n.val a.val b.val) ∧ impl_place.f (n.val : Int) (a.val : Int) (b.val : Int) = some (placeOf n.val a.val b.val) ∧
      0 ≤ placeOf n.val a.val b.val ∧ placeOf n.val a.val b.val < (n.val : Int) * ((n.val : Int) - 1) / 2 := by decide +kernel

/-- Two different people of a painting. -/
def two (n c : Int) (l : List Int) (a b : Int) : Bool := painted n c l && ((decide (0 ≤ a) && decide (a ≤ n - 1)) && ((decide (0 ≤ b) && decide (b ≤ n - 1)) && (a != b)))

theorem painted_of {n c : Int} {l : List Int} (h : painted n c l = true) : 0 ≤ n ∧ n ≤ 8 ∧ 1 ≤ c ∧ c ≤ 3 ∧ (l.length : Int) = n * (n - 1) / 2 ∧ ∀ x ∈ l, 0 ≤ x ∧ x ≤ c - 1 := by
  unfold painted at h
  simp only [Bool.and_eq_true, decide_eq_true_eq, List.all_eq_true] at h
  obtain ⟨⟨h1, h2⟩, ⟨h3, h4⟩, h5, h6⟩ := h
  exact ⟨h1, h2, h3, h4, h5, h6⟩

theorem two_of {n c : Int} {l : List Int} {a b : Int} (h : two n c l a b = true) : painted n c l = true ∧ (0 ≤ a ∧ a ≤ n - 1) ∧ (0 ≤ b ∧ b ≤ n - 1) ∧ a ≠ b := by
  unfold two at h
  simp only [Bool.and_eq_true, decide_eq_true_eq, bne_iff_ne, ne_eq] at h
  obtain ⟨h0, h1, h2, h3⟩ := h
  exact ⟨h0, h1, h2, h3⟩

theorem place_two {n c : Int} {l : List Int} {a b : Int} (h : two n c l a b = true) :
    spec_ptAt.f n a b = some (placeOf n a b) ∧ impl_place.f n a b = some (placeOf n a b) ∧ 0 ≤ placeOf n a b ∧ placeOf n a b < (l.length : Int) := by
  obtain ⟨hp, h1, h2, h3⟩ := two_of h
  obtain ⟨p1, p2, _, _, p5, _⟩ := painted_of hp
  have q := place_all ⟨n.toNat, by omega⟩ ⟨a.toNat, by omega⟩ ⟨b.toNat, by omega⟩ (by show a.toNat < n.toNat; omega) (by show b.toNat < n.toNat; omega) (by show a.toNat ≠ b.toNat; omega)
  have en : ((n.toNat : Nat) : Int) = n := by omega
  have ea : ((a.toNat : Nat) : Int) = a := by omega
  have eb : ((b.toNat : Nat) : Int) = b := by omega
  simp only [en, ea, eb] at q
  rw [p5]
  exact q

theorem ptOf_eq {n c : Int} {l : List Int} {a b : Int} (h : two n c l a b = true) : spec_ptOf.f n c l a b = some (rd l (placeOf n a b)) := by
  obtain ⟨h1, _, h3, h4⟩ := place_two h
  unfold spec_ptOf.f
  rw [h1, Option.bind_some, if_pos h3, if_pos h4]

theorem of_eq {n c : Int} {l : List Int} {a b : Int} (h : two n c l a b = true) : impl_Painting_of.f n c l a b = some (rd l (placeOf n a b)) := by
  obtain ⟨_, h2, h3, h4⟩ := place_two h
  unfold impl_Painting_of.f
  rw [h2, Option.bind_some, if_pos h3, if_pos h4]

end Go.Proofs.Ytcdngkehajifcaa.Plain

/- Parties: both sides' tests, and the law's own functions over parties. No condition but lengths that fit. -/
namespace Go.Proofs.Ytcdngkehajifcaa.Plain
open Go.RowKit Go.Proofs.YtcdngkehajifcaaW.PrintWords Go.Proofs.YtcdngkehajifcaaW.PrintLast
set_option linter.unusedVariables false
open Q

abbrev Pr := S91
abbrev rdP (l : List Pr) (i : Int) : Pr := rd_T91 l i

def pairOk (n : Int) (x : Pr) : Bool := decide (0 ≤ x.f0) && (decide (x.f0 < x.f1) && decide (x.f1 < n))
def lessB (x y : Pr) : Bool := decide (x.f0 < y.f0) || (decide (x.f0 = y.f0) && decide (x.f1 < y.f1))
/-- The pair at an index is right, and comes behind the one before. -/
def okAt (n : Int) (l : List Pr) (i : Nat) : Bool := pairOk n (rdP l i) && (decide (i = 0) || lessB (rdP l ((i : Int) - 1)) (rdP l i))
def party (n : Int) (l : List Pr) : Bool := (decide (0 ≤ n) && decide (n ≤ 12)) && (List.range l.length).all (okAt n l)

/-! What a party is, in words of numbers. -/
end Go.Proofs.Ytcdngkehajifcaa.Plain

/- The laws' marks: written into a list and found again. No condition but a length that fits. -/
namespace Go.Proofs.Ytcdngkehajifcaa.Plain
open Go.RowKit Go.Proofs.YtcdngkehajifcaaW.PrintWords Go.Proofs.YtcdngkehajifcaaW.PrintLast
set_option linter.unusedVariables false
open Q

/-- The marks of n numbers from v on. -/
def marksI (v : Int) (n : Nat) : List Int := (List.range n).map fun i : Nat => v + (i : Int)
theorem marksI_length (v : Int) (n : Nat) : (marksI v n).length = n := by simp [marksI]
theorem marksI_get {v : Int} {n i : Nat} (h : i < (marksI v n).length) : (marksI v n)[i] = v + (i : Int) := by simp [marksI]

theorem marksI_step (v : Int) (l : List Int) {i : Nat} (hi : i < l.length) : (marksI v i ++ l.drop i).set i (v + (i : Int)) = marksI v (i + 1) ++ l.drop (i + 1) := by
  apply List.ext_getElem
  · simp [marksI_length]; omega
  · intro j h1 h2
    rw [List.getElem_set]
    by_cases e : i = j
    · subst e
      rw [if_pos rfl, List.getElem_append_left (by rw [marksI_length]; omega), marksI_get]
    · rw [if_neg e]
      by_cases c : j < i
      · rw [List.getElem_append_left (by rw [marksI_length]; omega), List.getElem_append_left (by rw [marksI_length]; omega), marksI_get, marksI_get]
      · rw [List.getElem_append_right (by rw [marksI_length]; omega), List.getElem_append_right (by rw [marksI_length]; omega), List.getElem_drop, List.getElem_drop]
        congr 1
        rw [marksI_length, marksI_length]
        omega

theorem markIntS_ev (l : List Int) (v : Int) (h : l.length ≤ 1152921504606846976) (h0 : 0 ≤ v) (h1 : v ≤ 1152921504606846976) : Ev (fun k => laws_markIntS.f k l v) (v + (l.length : Int), marksI v l.length) := by
  have q := ev_up (n := l.length) (loop := fun k i => laws_markIntS.l0 k (marksI v i ++ l.drop i) (v + (i : Int)) (i : Int)) (r := fun _ => (v + (l.length : Int), marksI v l.length))
    (by
      refine Ev.step (f := fun _ => some (v + (l.length : Int), marksI v l.length)) (fun k => ?_) (Ev.now _)
      simp only [laws_markIntS.l0]
      rw [List.drop_length, List.append_nil, if_neg (by rw [marksI_length]; omega)])
    (fun i hi ih => by
      have hlen : (marksI v i ++ l.drop i).length = l.length := by rw [List.length_append, marksI_length, List.length_drop]; omega
      have w1 : wrap64 (v + (i : Int) + 1) = v + ((i + 1 : Nat) : Int) := by rw [wrap_id (by omega) (by omega)]; omega
      refine Ev.step (f := fun k => laws_markIntS.l0 k (marksI v (i + 1) ++ l.drop (i + 1)) (v + ((i + 1 : Nat) : Int)) ((i + 1 : Nat) : Int)) (fun k => ?_) ih
      simp only [laws_markIntS.l0]
      rw [if_pos (by rw [hlen]; omega), if_pos (by omega), w1, succ_cast hi (by omega), Int.toNat_natCast, marksI_step v l hi]) 0 (Nat.zero_le _)
  have e : marksI v 0 ++ l.drop 0 = l := by simp [marksI]
  rw [e] at q
  simpa [laws_markIntS.f] using q

theorem heldIntS_ev (n : Nat) (v : Int) (h : n ≤ 1152921504606846976) (h0 : 0 ≤ v) (h1 : v ≤ 1152921504606846976) : Ev (fun k => laws_heldIntS.f k (marksI v n) v) (v + (n : Int)) := by
  have hl := marksI_length v n
  have q := ev_up (n := n) (loop := fun k i => laws_heldIntS.l0 k (marksI v n) (v + (i : Int)) (i : Int)) (r := fun _ => v + (n : Int))
    (Ev.step (f := fun _ => some (v + (n : Int))) (fun k => by simp only [laws_heldIntS.l0]; rw [if_neg (by rw [hl]; omega)]) (Ev.now _))
    (fun i hi ih => by
      have w1 : wrap64 (v + (i : Int) + 1) = v + ((i + 1 : Nat) : Int) := by rw [wrap_id (by omega) (by omega)]; omega
      refine Ev.step (f := fun k => laws_heldIntS.l0 k (marksI v n) (v + ((i + 1 : Nat) : Int)) ((i + 1 : Nat) : Int)) (fun k => ?_) ih
      simp only [laws_heldIntS.l0]
      rw [if_pos (by rw [hl]; omega), if_pos (by omega), rd_at (by rw [hl]; exact hi), marksI_get, if_pos rfl, w1, succ_cast hi (by omega)]) 0 (Nat.zero_le _)
  simpa [laws_heldIntS.f] using q

theorem markPainting_ev (n c : Int) (l : List Int) (h : l.length ≤ 1152921504606846976) : Ev (fun k => laws_markPainting.f k n c l 1) (1 + (l.length : Int), marksI 1 l.length) := by
  unfold laws_markPainting.f
  exact Ev.bind (f := fun _ bt => some (bt.1, bt.2)) (markIntS_ev l 1 h (by omega) (by omega)) (Ev.now _)

theorem heldPainting_ev (n c : Int) (m : Nat) (h : m ≤ 1152921504606846976) : Ev (fun k => laws_heldPainting.f k n c (marksI 1 m) 1) (1 + (m : Int)) := by
  unfold laws_heldPainting.f
  refine Ev.bind (heldIntS_ev m 1 h (by omega) (by omega)) ?_
  exact ev_if (fun q => by omega) (fun _ => Ev.now _)

end Go.Proofs.Ytcdngkehajifcaa.Plain
/- The program's RenamePainting returns what the reference's returns, for all arguments. No condition. -/
namespace Go.Proofs.Ytcdngkehajifcaa.Pure
open Go.RowKit Go.Proofs.YtcdngkehajifcaaW.PrintWords Go.Proofs.YtcdngkehajifcaaW.PrintLast
set_option linter.unusedVariables false
open Q Plain

theorem rd_setN {l : List Int} {i : Nat} (v : Int) {b : Nat} (hb : b < l.length) : rd (l.set i v) (b : Int) = if b = i then v else rd l (b : Int) := by
  rw [rd_at (by rw [List.length_set]; exact hb), List.getElem_set, rd_at hb]
  by_cases e : i = b
  · rw [if_pos e, if_pos e.symm]
  · rw [if_neg e, if_neg (fun q => e q.symm)]
/-- The pair at a place, the less one first. -/
def pairAt (n p : Nat) : Nat × Nat := (((List.range n).flatMap fun a => ((List.range n).drop (a + 1)).map fun b => (a, b))).getD p (0, 0)
theorem pair_all : ∀ n : Fin 9, ∀ a : Fin 9, ∀ b : Fin 9, a.val < n.val → b.val < n.val → a.val ≠ b.val → pairAt n.val (placeOf n.val a.val b.val).toNat = (min a.val b.val, max a.val b.val) ∧ placeOf n.val a.val b.val = placeOf n.val b.val a.val := by decide +kernel
theorem pair_at {n a b : Nat} (hn : n ≤ 8) (ha : a < n) (hb : b < n) (hab : a ≠ b) : pairAt n (placeOf (n : Int) (a : Int) (b : Int)).toNat = (min a b, max a b) ∧ placeOf (n : Int) (a : Int) (b : Int) = placeOf (n : Int) (b : Int) (a : Int) :=
  pair_all ⟨n, by omega⟩ ⟨a, by omega⟩ ⟨b, by omega⟩ ha hb hab
/-- One place is of one pair. -/
theorem place_inj {n a b c d : Nat} (hn : n ≤ 8) (ha : a < n) (hb : b < n) (hab : a ≠ b) (hc : c < n) (hd : d < n) (hcd : c ≠ d) (h : placeOf (n : Int) (a : Int) (b : Int) = placeOf (n : Int) (c : Int) (d : Int)) : (a = c ∧ b = d) ∨ (a = d ∧ b = c) := by
  have h1 := (pair_at hn ha hb hab).1
  have h2 := (pair_at hn hc hd hcd).1
  rw [h, h2] at h1
  have e1 := congrArg Prod.fst h1
  have e2 := congrArg Prod.snd h1
  simp only at e1 e2
  omega

/-- The name of a person. -/
def nameN (s : List Int) (a : Nat) : Nat := (rd s (a : Int)).toNat
/-- Names of n people: each less than n, no two the same. -/
structure Names (n : Nat) (s : List Int) : Prop where
  len : s.length = n
  lt : ∀ a, a < n → nameN s a < n
  eq : ∀ a, a < n → rd s (a : Int) = ((nameN s a : Nat) : Int)
  inj : ∀ a b, a < n → b < n → nameN s a = nameN s b → a = b
theorem names_of {n : Nat} {s : List Int} (h : orderB (n : Int) s = true) : Names n s := by
  obtain ⟨h1, h2, h3⟩ := order_of h
  have hl : s.length = n := by omega
  have hb : ∀ a, a < n → 0 ≤ rd s (a : Int) ∧ rd s (a : Int) ≤ (n : Int) - 1 := fun a ha => by
    rw [rd_at (by omega)]; exact h2 _ (List.getElem_mem _)
  refine ⟨hl, fun a ha => ?_, fun a ha => ?_, fun a b ha hb2 e => ?_⟩
  · have := hb a ha; unfold nameN; omega
  · have := hb a ha; unfold nameN; omega
  · have b1 := hb a ha
    have b2 := hb b hb2
    unfold nameN at e
    have e2 : rd s (a : Int) = rd s (b : Int) := by omega
    rw [rd_at (by omega), rd_at (by omega)] at e2
    exact (List.getElem_inj h3).1 e2

/-- What stands where, when the pairs in P have been renamed. -/
structure Ren (n : Nat) (s l : List Int) (P : Nat → Nat → Prop) (L : List Int) : Prop where
  len : L.length = l.length
  hit : ∀ a b, a < n → b < n → a ≠ b → P a b → rd L (placeOf (n : Int) (nameN s a : Nat) (nameN s b : Nat)) = rd l (placeOf (n : Int) (a : Int) (b : Int))
  miss : ∀ p : Nat, p < l.length → (∀ a b, a < n → b < n → a ≠ b → P a b → placeOf (n : Int) (nameN s a : Nat) (nameN s b : Nat) ≠ (p : Int)) → rd L (p : Int) = rd l (p : Int)
theorem two_of2 {n : Nat} {c : Int} {l : List Int} (hp : painted (n : Int) c l = true) {a b : Nat} (ha : a < n) (hb : b < n) (hab : a ≠ b) : two (n : Int) c l (a : Int) (b : Int) = true := by
  unfold two
  rw [hp, decide_eq_true (show (0 : Int) ≤ (a : Int) by omega), decide_eq_true (show (a : Int) ≤ (n : Int) - 1 by omega), decide_eq_true (show (0 : Int) ≤ (b : Int) by omega), decide_eq_true (show (b : Int) ≤ (n : Int) - 1 by omega)]
  simp
  omega
theorem Ren.step {n : Nat} {c : Int} {s l L : List Int} {P P' : Nat → Nat → Prop} (hn : n ≤ 8) (hp : painted (n : Int) c l = true) (hs : Names n s) (h : Ren n s l P L) {a b : Nat} (ha : a < n) (hb : b < n) (hab : a ≠ b)
    (hP : ∀ x y, P' x y ↔ P x y ∨ (x = a ∧ y = b)) : Ren n s l P' (L.set (placeOf (n : Int) (nameN s a : Nat) (nameN s b : Nat)).toNat (rd l (placeOf (n : Int) (a : Int) (b : Int)))) := by
  have hne : nameN s a ≠ nameN s b := fun e => hab (hs.inj a b ha hb e)
  obtain ⟨_, _, q1, q2⟩ := place_two (two_of2 hp (hs.lt a ha) (hs.lt b hb) hne)
  obtain ⟨p, ep⟩ := Int.eq_ofNat_of_zero_le q1
  have hpl : p < L.length := by rw [h.len]; omega
  have hset : ∀ x : Nat, x < l.length → rd (L.set (placeOf (n : Int) (nameN s a : Nat) (nameN s b : Nat)).toNat (rd l (placeOf (n : Int) (a : Int) (b : Int)))) (x : Int) = if x = p then rd l (placeOf (n : Int) (a : Int) (b : Int)) else rd L (x : Int) := fun x hx => by
    rw [ep]; exact rd_setN _ (by rw [h.len]; exact hx)
  refine ⟨by rw [List.length_set]; exact h.len, fun x y hx hy hxy hPx => ?_, fun x hx hm => ?_⟩
  · have hne2 : nameN s x ≠ nameN s y := fun e => hxy (hs.inj x y hx hy e)
    obtain ⟨_, _, r1, r2⟩ := place_two (two_of2 hp (hs.lt x hx) (hs.lt y hy) hne2)
    obtain ⟨q, eq⟩ := Int.eq_ofNat_of_zero_le r1
    have hold := h.hit x y hx hy hxy
    rw [eq] at hold ⊢
    rw [hset q (by omega)]
    by_cases e : q = p
    · rw [if_pos e]
      subst e
      have := place_inj hn (hs.lt x hx) (hs.lt y hy) hne2 (hs.lt a ha) (hs.lt b hb) hne (by rw [eq, ep])
      rcases this with ⟨e1, e2⟩ | ⟨e1, e2⟩
      · rw [hs.inj x a hx ha e1, hs.inj y b hy hb e2]
      · rw [hs.inj x b hx hb e1, hs.inj y a hy ha e2]
        rw [(pair_at hn ha hb hab).2]
    · rw [if_neg e]
      rcases (hP x y).1 hPx with z | ⟨z1, z2⟩
      · exact hold z
      · subst z1; subst z2
        exfalso; apply e
        rw [ep] at eq; exact (Int.ofNat.inj eq).symm
  · rw [hset x hx]
    have hxp : x ≠ p := by
      intro e; subst e
      exact hm a b ha hb hab ((hP a b).2 (Or.inr ⟨rfl, rfl⟩)) ep
    rw [if_neg hxp]
    exact h.miss x hx (fun y z hy hz hyz hPy => hm y z hy hz hyz ((hP y z).2 (Or.inl hPy)))
theorem Ren.all {n : Nat} {c : Int} {s l L : List Int} {P : Nat → Nat → Prop} (hn : n ≤ 8) (hs : Names n s) (h : Ren n s l P L) (hP : ∀ a b, a < n → b < n → a ≠ b → P a b ∨ P b a) : Ren n s l (fun _ _ => True) L := by
  refine ⟨h.len, fun a b ha hb hab _ => ?_, fun p hp hm => h.miss p hp (fun a b ha hb hab _ => hm a b ha hb hab trivial)⟩
  rcases hP a b ha hb hab with z | z
  · exact h.hit a b ha hb hab z
  · have := h.hit b a hb ha (fun q => hab q.symm) z
    rw [(pair_at hn ha hb hab).2, (pair_at hn (hs.lt a ha) (hs.lt b hb) (fun e => hab (hs.inj a b ha hb e))).2]
    exact this
theorem Ren.unique {n : Nat} {s l L M : List Int} (h : Ren n s l (fun _ _ => True) L) (k : Ren n s l (fun _ _ => True) M) : L = M := by
  apply List.ext_getElem
  · rw [h.len, k.len]
  · intro i i1 i2
    rw [← rd_at i1, ← rd_at i2]
    have hi : i < l.length := by rw [← h.len]; exact i1
    by_cases e : ∃ a b, a < n ∧ b < n ∧ a ≠ b ∧ placeOf (n : Int) (nameN s a : Nat) (nameN s b : Nat) = (i : Int)
    · obtain ⟨a, b, ha, hb, hab, e⟩ := e
      rw [← e, h.hit a b ha hb hab trivial, k.hit a b ha hb hab trivial]
    · have hm : ∀ a b, a < n → b < n → a ≠ b → True → placeOf (n : Int) (nameN s a : Nat) (nameN s b : Nat) ≠ (i : Int) := fun a b ha hb hab _ q => e ⟨a, b, ha, hb, hab, q⟩
      rw [h.miss i hi hm, k.miss i hi hm]

open Classical in
/-- The renamed colours. -/
noncomputable def renL (n : Nat) (s l : List Int) : List Int := if h : ∃ L, Ren n s l (fun _ _ => True) L then Classical.choose h else []
theorem renL_of {n : Nat} {s l L : List Int} (h : Ren n s l (fun _ _ => True) L) : renL n s l = L := by
  have e : ∃ L, Ren n s l (fun _ _ => True) L := ⟨L, h⟩
  have e2 : renL n s l = Classical.choose e := by unfold renL; rw [dif_pos e]
  rw [e2]
  exact Ren.unique (Classical.choose_spec e) h
/-- What both sides tell. -/
noncomputable def tell (n c : Int) (l s : List Int) : Int × Int × List Int × Bool := if painted n c l = true ∧ orderB n s = true then (n, c, renL n.toNat s l, true) else (0, 0, [], false)

theorem impl_from {n : Nat} {c : Int} {l s : List Int} (hp : painted (n : Int) c l = true) (hs : Names n s) :
    ∃ L, Ren n s l (fun _ _ => True) L ∧ Ev (fun k => impl_RenamePainting.l0 k s (n : Int) 0 (n : Int) c l (n : Int) c l) ((n : Int), c, L, true) := by
  have hn : n ≤ 8 := by have := (painted_of hp).2.1; omega
  have outer : ∀ d a L, n - a = d → a ≤ n → Ren n s l (fun x y => y < x ∧ x < a) L → ∃ R, Ren n s l (fun _ _ => True) R ∧ Ev (fun k => impl_RenamePainting.l0 k s (n : Int) (a : Int) (n : Int) c l (n : Int) c L) ((n : Int), c, R, true) := by
    intro d
    induction d with
    | zero =>
      intro a L hd ha h
      refine ⟨L, h.all (c := c) hn hs (fun x y hx hy hxy => by omega), ?_⟩
      exact Ev.step (f := fun _ => some ((n : Int), c, L, true)) (fun k => by simp only [impl_RenamePainting.l0]; rw [if_neg (by omega)]) (Ev.now _)
    | succ d ihd =>
      intro a L hd ha h
      have han : a < n := by omega
      have inner : ∀ e b L, a - b = e → b ≤ a → Ren n s l (fun x y => y < x ∧ (x < a ∨ (x = a ∧ y < b))) L → ∃ R, Ren n s l (fun _ _ => True) R ∧ Ev (fun k => impl_RenamePainting.l1 k s (a : Int) (n : Int) (a : Int) (a : Int) (b : Int) (n : Int) c l (n : Int) c L) ((n : Int), c, R, true) := by
        intro e
        induction e with
        | zero =>
          intro b L he hb h1
          have h2 : Ren n s l (fun x y => y < x ∧ x < a + 1) L := ⟨h1.len, fun x y hx hy hxy hP => h1.hit x y hx hy hxy (by omega), fun p hpl hm => h1.miss p hpl (fun x y hx hy hxy hP => hm x y hx hy hxy (by omega))⟩
          obtain ⟨R, r1, r2⟩ := ihd (a + 1) L (by omega) (by omega) h2
          refine ⟨R, r1, ?_⟩
          refine Ev.step (f := fun k => impl_RenamePainting.l0 k s (n : Int) ((a + 1 : Nat) : Int) (n : Int) c l (n : Int) c L) (fun k => ?_) r2
          simp only [impl_RenamePainting.l1]
          rw [if_neg (by omega), succ_cast han (by omega)]
        | succ e ihe =>
          intro b L he hb h1
          have hba : b < a := by omega
          have hbn : b < n := by omega
          have hab : a ≠ b := by omega
          have hne : nameN s a ≠ nameN s b := fun z => hab (hs.inj a b han hbn z)
          have ht := two_of2 hp (hs.lt a han) (hs.lt b hbn) hne
          obtain ⟨_, q2, q3, q4⟩ := place_two ht
          have hof := of_eq (two_of2 hp han hbn hab)
          obtain ⟨R, r1, r2⟩ := ihe (b + 1) _ (by omega) (by omega) (h1.step hn hp hs han hbn hab (P' := fun x y => y < x ∧ (x < a ∨ (x = a ∧ y < b + 1))) (fun x y => by omega))
          refine ⟨R, r1, ?_⟩
          refine Ev.step (f := fun k => impl_RenamePainting.l1 k s (a : Int) (n : Int) (a : Int) (a : Int) ((b + 1 : Nat) : Int) (n : Int) c l (n : Int) c (L.set (placeOf (n : Int) (nameN s a : Nat) (nameN s b : Nat)).toNat (rd l (placeOf (n : Int) (a : Int) (b : Int))))) (fun k => ?_) r2
          have hl := hs.len
          have hL := h1.len
          simp only [impl_RenamePainting.l1]
          rw [if_pos (by omega), if_pos (by omega), if_pos (by omega), if_pos (by omega), if_pos (by omega), hs.eq a han, hs.eq b hbn, q2, Option.bind_some, hof, Option.bind_some, if_pos q3, if_pos (by omega), succ_cast hba (by omega)]
      obtain ⟨R, r1, r2⟩ := inner a 0 L rfl (Nat.zero_le _) ⟨h.len, fun x y hx hy hxy hP => h.hit x y hx hy hxy (by omega), fun p hpl hm => h.miss p hpl (fun x y hx hy hxy hP => hm x y hx hy hxy (by omega))⟩
      refine ⟨R, r1, ?_⟩
      refine Ev.step (f := fun k => impl_RenamePainting.l1 k s (a : Int) (n : Int) (a : Int) (a : Int) 0 (n : Int) c l (n : Int) c L) (fun k => ?_) r2
      simp only [impl_RenamePainting.l0]
      rw [if_pos (by omega)]
  exact outer n 0 l rfl (Nat.zero_le _) ⟨rfl, fun x y hx hy hxy hP => by omega, fun p hpl hm => rfl⟩

theorem spec_from {n : Nat} {c : Int} {l s : List Int} (hp : painted (n : Int) c l = true) (hs : Names n s) :
    ∃ L, Ren n s l (fun _ _ => True) L ∧ Ev (fun k => spec_RenamePainting.l0 k s 0 (n : Int) c l (n : Int) c l) ((n : Int), c, L, true) := by
  have hn : n ≤ 8 := by have := (painted_of hp).2.1; omega
  have outer : ∀ d a L, n - a = d → a ≤ n → Ren n s l (fun x y => x < y ∧ x < a) L → ∃ R, Ren n s l (fun _ _ => True) R ∧ Ev (fun k => spec_RenamePainting.l0 k s (a : Int) (n : Int) c l (n : Int) c L) ((n : Int), c, R, true) := by
    intro d
    induction d with
    | zero =>
      intro a L hd ha h
      refine ⟨L, h.all (c := c) hn hs (fun x y hx hy hxy => by omega), ?_⟩
      exact Ev.step (f := fun _ => some ((n : Int), c, L, true)) (fun k => by simp only [spec_RenamePainting.l0]; rw [if_neg (by omega)]) (Ev.now _)
    | succ d ihd =>
      intro a L hd ha h
      have han : a < n := by omega
      have inner : ∀ e b L, n - b = e → a < b → b ≤ n → Ren n s l (fun x y => x < y ∧ (x < a ∨ (x = a ∧ y < b))) L → ∃ R, Ren n s l (fun _ _ => True) R ∧ Ev (fun k => spec_RenamePainting.l1 k s (a : Int) (b : Int) (n : Int) c l (n : Int) c L) ((n : Int), c, R, true) := by
        intro e
        induction e with
        | zero =>
          intro b L he hab hb h1
          have h2 : Ren n s l (fun x y => x < y ∧ x < a + 1) L := ⟨h1.len, fun x y hx hy hxy hP => h1.hit x y hx hy hxy (by omega), fun p hpl hm => h1.miss p hpl (fun x y hx hy hxy hP => hm x y hx hy hxy (by omega))⟩
          obtain ⟨R, r1, r2⟩ := ihd (a + 1) L (by omega) (by omega) h2
          refine ⟨R, r1, ?_⟩
          refine Ev.step (f := fun k => spec_RenamePainting.l0 k s ((a + 1 : Nat) : Int) (n : Int) c l (n : Int) c L) (fun k => ?_) r2
          simp only [spec_RenamePainting.l1]
          rw [if_neg (by omega), succ_cast han (by omega)]
        | succ e ihe =>
          intro b L he hab2 hb h1
          have hbn : b < n := by omega
          have hab : a ≠ b := by omega
          have hne : nameN s a ≠ nameN s b := fun z => hab (hs.inj a b han hbn z)
          have ht := two_of2 hp (hs.lt a han) (hs.lt b hbn) hne
          obtain ⟨q2, _, q3, q4⟩ := place_two ht
          have hof := ptOf_eq (two_of2 hp han hbn hab)
          obtain ⟨R, r1, r2⟩ := ihe (b + 1) _ (by omega) (by omega) (by omega) (h1.step hn hp hs han hbn hab (P' := fun x y => x < y ∧ (x < a ∨ (x = a ∧ y < b + 1))) (fun x y => by omega))
          refine ⟨R, r1, ?_⟩
          refine Ev.step (f := fun k => spec_RenamePainting.l1 k s (a : Int) ((b + 1 : Nat) : Int) (n : Int) c l (n : Int) c (L.set (placeOf (n : Int) (nameN s a : Nat) (nameN s b : Nat)).toNat (rd l (placeOf (n : Int) (a : Int) (b : Int))))) (fun k => ?_) r2
          have hl := hs.len
          have hL := h1.len
          simp only [spec_RenamePainting.l1]
          rw [if_pos (by omega), if_pos (by omega), if_pos (by omega), if_pos (by omega), if_pos (by omega), hs.eq a han, hs.eq b hbn, q2, Option.bind_some, hof, Option.bind_some, if_pos q3, if_pos (by omega), succ_cast hbn (by omega)]
      obtain ⟨R, r1, r2⟩ := inner (n - (a + 1)) (a + 1) L rfl (by omega) (by omega) ⟨h.len, fun x y hx hy hxy hP => h.hit x y hx hy hxy (by omega), fun p hpl hm => h.miss p hpl (fun x y hx hy hxy hP => hm x y hx hy hxy (by omega))⟩
      refine ⟨R, r1, ?_⟩
      refine Ev.step (f := fun k => spec_RenamePainting.l1 k s (a : Int) ((a + 1 : Nat) : Int) (n : Int) c l (n : Int) c L) (fun k => ?_) r2
      simp only [spec_RenamePainting.l0]
      rw [if_pos (by omega), succ_cast han (by omega)]
  exact outer n 0 l rfl (Nat.zero_le _) ⟨rfl, fun x y hx hy hxy hP => by omega, fun p hpl hm => rfl⟩

theorem impl_ev (n c : Int) (l s : List Int) (h : l.length ≤ 1048576) (h2 : s.length ≤ 1048576) : Ev (fun k => impl_RenamePainting.f k n c l s) (tell n c l s) := by
  unfold impl_RenamePainting.f
  have bad : ¬ (painted n c l = true ∧ orderB n s = true) → Ev (fun k => impl_RenamePainting.j0 k s true n c l) (tell n c l s) := by
    intro hb
    unfold tell
    rw [if_neg hb]
    exact Ev.step (f := fun _ => some (0, 0, [], false)) (fun k => by simp only [impl_RenamePainting.j0]; rfl) (Ev.now _)
  refine Ev.bind (isPainting_ev n c l (by omega)) ?_
  refine ev_if (fun hp => ?_) (fun hp => bad (fun z => hp z.1))
  obtain ⟨p1, p2, _⟩ := painted_of hp
  refine Ev.bind (isPermutation_ev s n p1 (by omega) h2) ?_
  cases ho : orderB n s with
  | false => exact bad (fun z => by rw [ho] at z; exact absurd z.2 (by simp))
  | true =>
    obtain ⟨m, rfl⟩ := Int.eq_ofNat_of_zero_le p1
    have hs := names_of ho
    obtain ⟨L, h3, h4⟩ := impl_from hp hs
    unfold tell
    rw [if_pos ⟨hp, ho⟩, Int.toNat_natCast, renL_of h3]
    have hown : impl_Painting_own.f (m : Int) c l = some ((m : Int), c, l) := by
      unfold impl_Painting_own.f slices_Clone_int_int.f
      rw [if_pos (by omega)]
      rfl
    refine Ev.step (f := fun k => impl_RenamePainting.l0 k s (m : Int) 0 (m : Int) c l (m : Int) c l) (fun k => ?_) h4
    simp only [impl_RenamePainting.j0]
    rw [if_neg (by simp), hown, Option.bind_some, hs.len]

theorem spec_ev (n c : Int) (l s : List Int) (h : l.length ≤ 1048576) (h2 : s.length ≤ 1048576) : Ev (fun k => spec_RenamePainting.f k n c l s) (tell n c l s) := by
  unfold spec_RenamePainting.f
  have bad : ¬ (painted n c l = true ∧ orderB n s = true) → Ev (fun k => spec_RenamePainting.j0 k s true n c l) (tell n c l s) := by
    intro hb
    unfold tell
    rw [if_neg hb]
    exact Ev.step (f := fun _ => some (0, 0, [], false)) (fun k => by simp only [spec_RenamePainting.j0]; rfl) (Ev.now _)
  refine Ev.bind (ptGood_ev n c l (by omega)) ?_
  refine ev_if (fun hp => ?_) (fun hp => bad (fun z => hp z.1))
  obtain ⟨p1, p2, _⟩ := painted_of hp
  refine Ev.bind (grOrder_ev n s p1 (by omega) h2) ?_
  cases ho : orderB n s with
  | false => exact bad (fun z => by rw [ho] at z; exact absurd z.2 (by simp))
  | true =>
    obtain ⟨m, rfl⟩ := Int.eq_ofNat_of_zero_le p1
    have hs := names_of ho
    obtain ⟨L, h3, h4⟩ := spec_from hp hs
    unfold tell
    rw [if_pos ⟨hp, ho⟩, Int.toNat_natCast, renL_of h3]
    have hown : spec_ptOwn.f (m : Int) c l = some ((m : Int), c, l) := by
      unfold spec_ptOwn.f spec_l1Own.f
      rw [Option.bind_some, if_pos (by simp only [List.length_nil]; omega)]
      rfl
    refine Ev.step (f := fun k => spec_RenamePainting.l0 k s 0 (m : Int) c l (m : Int) c l) (fun k => ?_) h4
    simp only [spec_RenamePainting.j0]
    rw [if_neg (by simp), hown, Option.bind_some]

theorem tell_len (n c : Int) (l s : List Int) : (tell n c l s).2.2.1.length ≤ l.length := by
  unfold tell
  by_cases h : painted n c l = true ∧ orderB n s = true
  · rw [if_pos h]
    obtain ⟨p1, _⟩ := painted_of h.1
    obtain ⟨m, rfl⟩ := Int.eq_ofNat_of_zero_le p1
    obtain ⟨L, h3, _⟩ := impl_from h.1 (names_of h.2)
    show (renL (m : Int).toNat s l).length ≤ l.length
    rw [Int.toNat_natCast, renL_of h3, h3.len]
    exact Nat.le_refl _
  · rw [if_neg h]; simp

theorem FnExactRenamePainting : laws_FnExactRenamePainting.Pure := by
  intro n c l s _ _ hl _ hl1 _
  refine Ev.rounds (g := fun k => laws_FnExactRenamePainting.f k n c l s) ?_
  unfold laws_FnExactRenamePainting.f
  refine ev_if (fun _ => Ev.now _) (fun hb4 => ?_)
  refine ev_bind0 (szPainting_eq n c l 1048576 (by omega) (by omega) hl) ?_
  refine ev_if (fun _ => Ev.now _) (fun hb => ?_)
  have hs : l.length ≤ 1048576 := by
    by_cases h : (1048576 : Int) < (l.length : Int)
    · rw [if_pos h] at hb; omega
    · omega
  have hTl := toPainting_ev n c l (by omega)
  have hTs := toIntS_ev s (by omega)
  have hS := spec_ev n c l s (by omega) (by omega)
  have hI := impl_ev n c l s (by omega) (by omega)
  have hp := tell_len n c l s
  generalize tell n c l s = z at hS hI hp
  obtain ⟨pn, pc, ps, ok1⟩ := z
  replace hp : ps.length ≤ l.length := hp
  refine Ev.bind hTl ?_
  refine Ev.bind hTs ?_
  refine Ev.bind hS ?_
  refine Ev.bind hTl ?_
  refine Ev.bind hTs ?_
  refine Ev.bind hI ?_
  refine Ev.bind (eqPainting_ev pn pc ps (by omega)) ?_
  refine ev_if (fun _ => ?_) (fun h => absurd rfl h)
  show Ev (fun k => laws_FnExactRenamePainting.j0 k s ok1 s ok1 (ok1 != ok1) n c l pn pc ps n c l pn pc ps) true
  rw [show (ok1 != ok1) = false by simp]
  refine Ev.step (f := fun k => (laws_toPainting.f k n c l).bind fun bt238 => ((laws_eqPainting.f k n c l bt238.1 bt238.2.1 bt238.2.2).bind fun t243 => (if t243 = true then ((laws_toIntS.f k s).bind fun t244 => ((laws_eqIntS.f k s t244).bind fun t247 => (if t247 = true then ((laws_markPainting.f k n c l 1).bind fun bt248 => ((laws_markIntS.f k s bt248.1).bind fun bt250 => (if bt250.1 < 0 then (laws_FnExactRenamePainting.j1 k s ok1 true n c l pn pc ps pn pc ps) else ((laws_eqPainting.f k pn pc ps pn pc ps).bind fun t252 => (if t252 = true then (laws_FnExactRenamePainting.j1 k s ok1 (ok1 != ok1) n c l pn pc ps pn pc ps) else (laws_FnExactRenamePainting.j1 k s ok1 true n c l pn pc ps pn pc ps)))))) else (some false)))) else (some false)))) (fun k => by simp only [laws_FnExactRenamePainting.j0]; rfl) ?_
  refine Ev.bind hTl ?_
  refine Ev.bind (eqPainting_ev n c l (by omega)) ?_
  refine ev_if (fun _ => ?_) (fun h => absurd rfl h)
  refine Ev.bind hTs ?_
  refine Ev.bind (eqIntS_ev s (by omega)) ?_
  refine ev_if (fun _ => ?_) (fun h => absurd rfl h)
  refine Ev.bind (markPainting_ev n c l (by omega)) ?_
  refine Ev.bind (markIntS_ev s (1 + (l.length : Int)) (by omega) (by omega) (by omega)) ?_
  refine ev_if (fun (q : ((1 + (l.length : Int)) + (s.length : Int)) < 0) => by omega) (fun _ => ?_)
  refine Ev.bind (eqPainting_ev pn pc ps (by omega)) ?_
  refine ev_if (fun _ => ?_) (fun h => absurd rfl h)
  show Ev (fun k => laws_FnExactRenamePainting.j1 k s ok1 (ok1 != ok1) n c l pn pc ps pn pc ps) true
  rw [show (ok1 != ok1) = false by simp]
  refine Ev.step (f := fun k => (laws_markPainting.f k pn pc ps 1).bind fun bt253 => ((laws_heldPainting.f k pn pc bt253.2 1).bind fun t255 => (if t255 < 0 then (some false) else (if t255 = bt253.1 then ((laws_toPainting.f k n c l).bind fun bt256 => ((laws_toIntS.f k s).bind fun t261 => ((impl_RenamePainting.f k bt256.1 bt256.2.1 bt256.2.2 t261).bind fun bt264 => ((laws_eqPainting.f k bt264.1 bt264.2.1 bt264.2.2.1 pn pc ps).bind fun t271 => (if t271 = true then (laws_FnExactRenamePainting.j2 k bt253.1 (bt264.2.2.2 != ok1) pn pc bt253.2) else (laws_FnExactRenamePainting.j2 k bt253.1 true pn pc bt253.2)))))) else (some false))))) (fun k => by simp only [laws_FnExactRenamePainting.j1]; rfl) ?_
  refine Ev.bind (markPainting_ev pn pc ps (by omega)) ?_
  refine Ev.bind (heldPainting_ev pn pc _ (by omega)) ?_
  refine ev_if (fun (q : (1 + ((ps.length : Nat) : Int)) < 0) => by omega) (fun _ => ?_)
  refine ev_if (fun _ => ?_) (fun h => absurd rfl h)
  refine Ev.bind hTl ?_
  refine Ev.bind hTs ?_
  refine Ev.bind hI ?_
  refine Ev.bind (eqPainting_ev pn pc ps (by omega)) ?_
  refine ev_if (fun _ => ?_) (fun h => absurd rfl h)
  show Ev (fun k => laws_FnExactRenamePainting.j2 k (1 + (ps.length : Int)) (ok1 != ok1) pn pc (marksI 1 ps.length)) true
  rw [show (ok1 != ok1) = false by simp]
  refine Ev.step (f := fun k => (laws_heldPainting.f k pn pc (marksI 1 ps.length) 1).bind fun t272 => (if t272 < 0 then (some false) else (if t272 = (1 + (ps.length : Int)) then (some true) else (some false)))) (fun k => by simp only [laws_FnExactRenamePainting.j2]; rfl) ?_
  refine Ev.bind (heldPainting_ev pn pc _ (by omega)) ?_
  refine ev_if (fun (q : (1 + ((ps.length : Nat) : Int)) < 0) => by omega) (fun _ => ?_)
  refine ev_if (fun _ => ?_) (fun h => absurd rfl h)
  exact Ev.now _
end Go.Proofs.Ytcdngkehajifcaa.Pure
